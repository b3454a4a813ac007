import PyProof.Rows.All
import Wide.All
import OpenK.AllK
import Wide.FinOn
import KE.KStateDown
import HandS.Words
import HandS.Defaults
import HandS.Head0
import HandS.Head1
import HandS.Head2
import HandS.HeadEnd
import HandS.HeadHook1
import HandS.HeadHook2
import HandS.ForMost
import HandS.Star
import HandS.Deep
import HandS.Zip
import HandS.IsInst
import HandS.TupLe
import HandS.TupAny
import HandS.Style
import HandS.Flow
import HandS.Wide
import HandS.ExcOwn
import KE.SortData
import KE.DataMinMax
import PyProof.Rows.SortWalk
import HandS.Conv
import HandS.RevTup
import HandS.SortRule
import KE.KDictDisplayH
import HandS.Strs
import HandS.Iter
import KE.GoesEnum
import KE.GoesMore
import PySem.Challenge.RW_tiesigns_k24_whole_ways_that_agree
set_option Elab.async false
set_option linter.all false
set_option maxRecDepth 100000
set_option maxHeartbeats 0
namespace TD
open PySem
abbrev PP : Program := PySem.Challenge.pw_tiesigns_k24_whole_ways_that_agree
def top (i : Nat) : Stmt := PySem.Challenge.pw_tiesigns_k24_whole_ways_that_agree.main.body.getD i (.Pass ⟨0, 0, 0, 0⟩)
end TD
namespace TD
open PySem L2
def d_is_from : He.DefD := ⟨("is_from", none), "is_from", "is_from", defArgs (top 14), defBody (top 14), defScope (top 14), [], []⟩
def d_arrows_of : He.DefD := ⟨("arrows_of", none), "arrows_of", "arrows_of", defArgs (top 24), defBody (top 24), defScope (top 24), [], []⟩
def d_heights_of : He.DefD := ⟨("heights_of", none), "heights_of", "heights_of", defArgs (top 25), defBody (top 25), defScope (top 25), [], []⟩
def d_is_ringless : He.DefD := ⟨("is_ringless", none), "is_ringless", "is_ringless", defArgs (top 26), defBody (top 26), defScope (top 26), [], []⟩
def d_are_signs : He.DefD := ⟨("are_signs", none), "are_signs", "are_signs", defArgs (top 22), defBody (top 22), defScope (top 22), [], []⟩
def d_check_signs : He.DefD := ⟨("check_signs", none), "check_signs", "check_signs", defArgs (top 23), defBody (top 23), defScope (top 23), [], []⟩
def d_check_ringless : He.DefD := ⟨("check_ringless", none), "check_ringless", "check_ringless", defArgs (top 27), defBody (top 27), defScope (top 27), [], []⟩
def d_leads_round : He.DefD := ⟨("leads_round", none), "leads_round", "leads_round", defArgs (top 28), defBody (top 28), defScope (top 28), [], []⟩
def d_read_off : He.DefD := ⟨("read_off", none), "read_off", "read_off", defArgs (top 29), defBody (top 29), defScope (top 29), [], []⟩
def d_are_colours : He.DefD := ⟨("are_colours", none), "are_colours", "are_colours", defArgs (top 32), defBody (top 32), defScope (top 32), [], []⟩
def d_check_colours : He.DefD := ⟨("check_colours", none), "check_colours", "check_colours", defArgs (top 33), defBody (top 33), defScope (top 33), [], []⟩
def d_signs_by : He.DefD := ⟨("signs_by", none), "signs_by", "signs_by", defArgs (top 34), defBody (top 34), defScope (top 34), [], []⟩
def d_signs_of : He.DefD := ⟨("signs_of", none), "signs_of", "signs_of", defArgs (top 35), defBody (top 35), defScope (top 35), [], []⟩
def d_all_signs : He.DefD := ⟨("all_signs", none), "all_signs", "all_signs", defArgs (top 36), defBody (top 36), defScope (top 36), [], []⟩
def d_ringless_signs : He.DefD := ⟨("ringless_signs", none), "ringless_signs", "ringless_signs", defArgs (top 37), defBody (top 37), defScope (top 37), [], []⟩
def d_signings : He.DefD := ⟨("signings", none), "signings", "signings", defArgs (top 38), defBody (top 38), defScope (top 38), [], []⟩
def d_signs_with : He.DefD := ⟨("signs_with", none), "signs_with", "signs_with", defArgs (top 39), defBody (top 39), defScope (top 39), [], []⟩
def d_is_tie : He.DefD := ⟨("is_tie", none), "is_tie", "is_tie", defArgs (top 15), defBody (top 15), defScope (top 15), [], []⟩
def d_neighbours : He.DefD := ⟨("neighbours", none), "neighbours", "neighbours", defArgs (top 17), defBody (top 17), defScope (top 17), [], []⟩
def d_check_clock : He.DefD := ⟨("check_clock", none), "check_clock", "check_clock", defArgs (top 48), defBody (top 48), defScope (top 48), [], []⟩
def d_check_few : He.DefD := ⟨("check_few", none), "check_few", "check_few", defArgs (top 58), defBody (top 58), defScope (top 58), [], []⟩
def d_ways_on : He.DefD := ⟨("ways_on", none), "ways_on", "ways_on", defArgs (top 18), defBody (top 18), defScope (top 18), [], []⟩
def d_rings_of : He.DefD := ⟨("rings_of", none), "rings_of", "rings_of", defArgs (top 19), defBody (top 19), defScope (top 19), [], []⟩
def d_forward : He.DefD := ⟨("forward", none), "forward", "forward", defArgs (top 42), defBody (top 42), defScope (top 42), [], []⟩
def d_both_ways : He.DefD := ⟨("both_ways", none), "both_ways", "both_ways", defArgs (top 43), defBody (top 43), defScope (top 43), [], []⟩
def d_reduced : He.DefD := ⟨("reduced", none), "reduced", "reduced", defArgs (top 44), defBody (top 44), defScope (top 44), [], []⟩
def d_strain_of : He.DefD := ⟨("strain_of", none), "strain_of", "strain_of", defArgs (top 45), defBody (top 45), defScope (top 45), [], []⟩
def d_strain : He.DefD := ⟨("strain", none), "strain", "strain", defArgs (top 46), defBody (top 46), defScope (top 46), [], []⟩
def d_least_strain : He.DefD := ⟨("least_strain", none), "least_strain", "least_strain", defArgs (top 47), defBody (top 47), defScope (top 47), [], []⟩
def d_least_clock : He.DefD := ⟨("least_clock", none), "least_clock", "least_clock", defArgs (top 53), defBody (top 53), defScope (top 53), [], []⟩
def d_are_times : He.DefD := ⟨("are_times", none), "are_times", "are_times", defArgs (top 49), defBody (top 49), defScope (top 49), [], []⟩
def d_is_timed : He.DefD := ⟨("is_timed", none), "is_timed", "is_timed", defArgs (top 50), defBody (top 50), defScope (top 50), [], []⟩
def d_times_on : He.DefD := ⟨("times_on", none), "times_on", "times_on", defArgs (top 51), defBody (top 51), defScope (top 51), [], []⟩
def d_clock : He.DefD := ⟨("clock", none), "clock", "clock", defArgs (top 52), defBody (top 52), defScope (top 52), [], []⟩
def d_colour_on : He.DefD := ⟨("colour_on", none), "colour_on", "colour_on", defArgs (top 59), defBody (top 59), defScope (top 59), [], []⟩
def d_colouring : He.DefD := ⟨("colouring", none), "colouring", "colouring", defArgs (top 60), defBody (top 60), defScope (top 60), [], []⟩
def d_least_of : He.DefD := ⟨("least_of", none), "least_of", "least_of", defArgs (top 61), defBody (top 61), defScope (top 61), [], []⟩
def d_least : He.DefD := ⟨("least", none), "least", "least", defArgs (top 62), defBody (top 62), defScope (top 62), [], []⟩
def d_paper : He.DefD := ⟨("paper", none), "paper", "paper", defArgs (top 63), defBody (top 63), defScope (top 63), [], []⟩
def d_shows : He.DefD := ⟨("shows", none), "shows", "shows", defArgs (top 66), defBody (top 66), defScope (top 66), [], []⟩
def d_times_less : He.DefD := ⟨("times_less", none), "times_less", "times_less", defArgs (top 68), defBody (top 68), defScope (top 68), [], []⟩
def d_value_at : He.DefD := ⟨("value_at", none), "value_at", "value_at", defArgs (top 71), defBody (top 71), defScope (top 71), [], []⟩
def d_times_by : He.DefD := ⟨("times_by", none), "times_by", "times_by", defArgs (top 54), defBody (top 54), defScope (top 54), [], []⟩
def d_lots_on : He.DefD := ⟨("lots_on", none), "lots_on", "lots_on", defArgs (top 67), defBody (top 67), defScope (top 67), [], []⟩
def d_powers_of : He.DefD := ⟨("powers_of", none), "powers_of", "powers_of", defArgs (top 69), defBody (top 69), defScope (top 69), [], []⟩
def d_polynomial : He.DefD := ⟨("polynomial", none), "polynomial", "polynomial", defArgs (top 70), defBody (top 70), defScope (top 70), [], []⟩
def d_many_colourings : He.DefD := ⟨("many_colourings", none), "many_colourings", "many_colourings", defArgs (top 72), defBody (top 72), defScope (top 72), [], []⟩
def d_many_signings : He.DefD := ⟨("many_signings", none), "many_signings", "many_signings", defArgs (top 73), defBody (top 73), defScope (top 73), [], []⟩
def d_can_turn : He.DefD := ⟨("can_turn", none), "can_turn", "can_turn", defArgs (top 75), defBody (top 75), defScope (top 75), [], []⟩
def d_turned_at : He.DefD := ⟨("turned_at", none), "turned_at", "turned_at", defArgs (top 76), defBody (top 76), defScope (top 76), [], []⟩
def d_turned : He.DefD := ⟨("turned", none), "turned", "turned", defArgs (top 77), defBody (top 77), defScope (top 77), [], []⟩
def d_ring_apart : He.DefD := ⟨("ring_apart", none), "ring_apart", "ring_apart", defArgs (top 80), defBody (top 80), defScope (top 80), [], []⟩
def d_rows_from : He.DefD := ⟨("rows_from", none), "rows_from", "rows_from", defArgs (top 78), defBody (top 78), defScope (top 78), [], []⟩
def d_turns : He.DefD := ⟨("turns", none), "turns", "turns", defArgs (top 79), defBody (top 79), defScope (top 79), [], []⟩
def d_all_turned : He.DefD := ⟨("all_turned", none), "all_turned", "all_turned", defArgs (top 81), defBody (top 81), defScope (top 81), [], []⟩
def d_way_of : He.DefD := ⟨("way_of", none), "way_of", "way_of", defArgs (top 31), defBody (top 31), defScope (top 31), [], []⟩
def d_longest : He.DefD := ⟨("longest", none), "longest", "longest", defArgs (top 30), defBody (top 30), defScope (top 30), [], []⟩
def d_init : He.DefD := ⟨("Web", some "__init__"), "__init__", "Web.__init__", defArgs (inClass (top 16) 0), defBody (inClass (top 16) 0), defScope (inClass (top 16) 0), [], []⟩
def d__law_pick : He.DefD := ⟨("_law_pick", none), "_law_pick", "_law_pick", defArgs (top 84), defBody (top 84), defScope (top 84), [], []⟩
def d__law_web : He.DefD := ⟨("_law_web", none), "_law_web", "_law_web", defArgs (top 85), defBody (top 85), defScope (top 85), [], []⟩
def d__law_wide : He.DefD := ⟨("_law_wide", none), "_law_wide", "_law_wide", defArgs (top 87), defBody (top 87), defScope (top 87), [], []⟩
def d__law_made : He.DefD := ⟨("_law_made", none), "_law_made", "_law_made", defArgs (top 86), defBody (top 86), defScope (top 86), [], []⟩
def d__law_draws : He.DefD := ⟨("_law_draws", none), "_law_draws", "_law_draws", defArgs (top 83), defBody (top 83), defScope (top 83), [], []⟩
def d__law_led : He.DefD := ⟨("_law_led", none), "_law_led", "_law_led", defArgs (top 88), defBody (top 88), defScope (top 88), [], []⟩
def d_law : He.DefD := ⟨("law", none), "law", "law", defArgs (top 89), defBody (top 89), defScope (top 89), [], []⟩
def fnL0 : List He.DefD := [d_is_from, d_arrows_of, d_heights_of, d_is_ringless, d_are_signs, d_check_signs, d_check_ringless, d_leads_round, d_read_off, d_are_colours, d_check_colours, d_signs_by, d_signs_of, d_all_signs, d_ringless_signs, d_signings, d_signs_with, d_is_tie, d_neighbours, d_check_clock, d_check_few, d_ways_on, d_rings_of, d_forward, d_both_ways, d_reduced, d_strain_of, d_strain, d_least_strain, d_least_clock]
def fnL1 : List He.DefD := [d_are_times, d_is_timed, d_times_on, d_clock, d_colour_on, d_colouring, d_least_of, d_least, d_paper, d_shows, d_times_less, d_value_at, d_times_by, d_lots_on, d_powers_of, d_polynomial, d_many_colourings, d_many_signings, d_can_turn, d_turned_at, d_turned, d_ring_apart, d_rows_from, d_turns, d_all_turned, d_way_of, d_longest, d_init, d__law_pick, d__law_web]
def fnL2 : List He.DefD := [d__law_wide, d__law_made, d__law_draws, d__law_led, d_law]
def fnL : List He.DefD := fnL0 ++ fnL1 ++ fnL2
def faL0 : List He.Fa := [.cls "Web", .mkr "Web", .noat "Web" "many", .noat "Web" "rows", .glo "Web", .int "MOST_PLACES" 6, .int "MOST_TIES" 10, .int "MOST_COLOUR" 20, .int "MOST_HOURS" 12, .str "COLOURS" "colours", .free "len", .free "all", .free "any", .free "max", .free "min", .free "sorted", .free "zip", .free "range", .free "enumerate", .free "isinstance", .free "abs", .free "int", .free "bool", .free "str", .free "list", .free "tuple", .glo "is_from", .glo "arrows_of", .glo "heights_of", .glo "is_ringless"]
def faL1 : List He.Fa := [.glo "are_signs", .glo "check_signs", .glo "check_ringless", .glo "leads_round", .glo "read_off", .glo "are_colours", .glo "check_colours", .glo "signs_by", .glo "signs_of", .glo "all_signs", .glo "ringless_signs", .glo "signings", .glo "signs_with", .glo "is_tie", .glo "neighbours", .glo "check_clock", .glo "check_few", .glo "ways_on", .glo "rings_of", .glo "forward", .glo "both_ways", .glo "reduced", .glo "strain_of", .glo "strain", .glo "least_strain", .glo "least_clock", .glo "are_times", .glo "is_timed", .glo "times_on", .glo "clock"]
def faL2 : List He.Fa := [.glo "colour_on", .glo "colouring", .glo "least_of", .glo "least", .glo "paper", .glo "shows", .glo "times_less", .glo "value_at", .glo "times_by", .glo "lots_on", .glo "powers_of", .glo "polynomial", .glo "many_colourings", .glo "many_signings", .glo "can_turn", .glo "turned_at", .glo "turned", .glo "ring_apart", .glo "rows_from", .glo "turns", .glo "all_turned", .glo "way_of", .glo "longest", .glo "_law_pick", .glo "_law_web", .glo "_law_wide", .glo "_law_made", .glo "_law_draws", .glo "_law_led", .glo "law"]
def faL : List He.Fa := faL0 ++ faL1 ++ faL2
def namesL0 : List PySem.Str := ["__name__", "SignError", "BadPlaces", "BadSigns", "BadColours", "BadNumber", "BadPlace", "BadClock", "Ringed", "BadTies", "NoTurn", "MOST_PLACES", "MOST_TIES", "is_from", "is_tie", "Web", "neighbours", "ways_on", "rings_of", "MOST_COLOUR", "are_signs", "check_signs", "arrows_of", "heights_of", "is_ringless", "check_ringless", "leads_round", "read_off", "longest", "way_of"]
def namesL1 : List PySem.Str := ["are_colours", "check_colours", "signs_by", "signs_of", "all_signs", "ringless_signs", "signings", "signs_with", "MOST_HOURS", "forward", "both_ways", "reduced", "strain_of", "strain", "least_strain", "check_clock", "are_times", "is_timed", "times_on", "clock", "least_clock", "times_by", "COLOURS", "WAYS", "check_few", "colour_on", "colouring", "least_of", "least", "paper"]
def namesL2 : List PySem.Str := ["is_way", "are_ways", "shows", "lots_on", "times_less", "powers_of", "polynomial", "value_at", "many_colourings", "many_signings", "can_turn", "turned_at", "turned", "rows_from", "turns", "ring_apart", "all_turned", "_law_draws", "_law_pick", "_law_web", "_law_made", "_law_wide", "_law_led"]
def namesL : List PySem.Str := namesL0 ++ namesL1 ++ namesL2
abbrev RR : PySem.W.OpenRow := PySem.W.OpenLaw.row PySem.Challenge.rw_tiesigns_k24_whole_ways_that_agree
abbrev qv : Program := PySem.W.view RR.prog [89]
def rfs (g : Addr → Option Obj) (as : List Addr) : List Addr := as.flatMap fun a => match g a with
  | some o => He.refsD o
  | none => []
/-- what the names of the text reach in four steps -/
def asX (g : Addr → Option Obj) : List Addr := PySem.mainGlobals :: (rfs g [PySem.mainGlobals] ++ (rfs g (rfs g [PySem.mainGlobals]) ++ (rfs g (rfs g (rfs g [PySem.mainGlobals])) ++ rfs g (rfs g (rfs g (rfs g [PySem.mainGlobals]))))))
def obX (g : Addr → Option Obj) : He.AlD := He.obsD faL fnL (He.frG g (asX g))
def hk : PySem.W.Hook where
  α := He.AlD
  obs := fun s => obX s.heap.get?
  val := fun _ => He.valD fnL
  says := fun _ hp => ∃ KK : PySem.W.Frag, KK.In hp ∧ He.SaysD faL fnL KK
  of := fun _ _ eq => ⟨_, He.frG_in, eq⟩
  keeps := fun _ _ _ ⟨KK, hKK, cc⟩ kk => ⟨KK, PySem.W.Frag.In.keeps hKK kk, cc⟩
def ob (s : PySem.W.SharedT) : He.AlD := obX (HandSHeadRun.getT s)
theorem ob_eq (s : PySem.W.SharedT) : ob s = hk.obs s.abs := by
  have e : HandSHeadRun.getT s = s.abs.heap.get? := funext (HandSHeadRun.getT_eq s)
  show obX (HandSHeadRun.getT s) = obX s.abs.heap.get?
  rw [e]
theorem run_join {A B D E : Type} {x : Option A} {fb : A → B} {fd : A → D} {fe : A → E} {b : B} {d : D} {e : E} (h1 : x.map (fun s => (fb s, fd s)) = some (b, d)) (h2 : x.map fe = some e) : x.map (fun s => (fb s, fd s, fe s)) = some (b, d, e) := by
  cases x with
  | none => cases h1
  | some s =>
    have h1 : some (fb s, fd s) = some (b, d) := h1
    have h2 : some (fe s) = some e := h2
    cases h1
    cases h2
    rfl
noncomputable def lastS (w : World) (os : OsState) : Option PySem.W.SharedT := HandSHeadRun.endF (HandSHeadRun.stepQ (HandSHeadRun.denQ HandSHeadRun.tabQ) RR.prog w) 30000 RR.prog w os
theorem run_a (w : World) (os : OsState) : (lastS w os).map (fun s => (HandSHeadRun.looksF RR.prog (PySem.W.boot_heap w.params) s.abs, HandSHeadRun.seenQ qv namesL (PySem.importedModules RR.prog.main.body) (fun s => PySem.W.xlAt qv [] s && PySem.W.recOk RR.toRowW.records s) s.abs)) = some (true, PySem.W.openGood qv namesL) := by
  kernel_rfl
theorem run_b (w : World) (os : OsState) : (lastS w os).map ob = some (hk.val w) := by
  kernel_rfl
theorem run (w : World) : HandSHeadRun.RunEq RR qv hk ob 30000 namesL w := fun os => run_join (run_a w os) (run_b w os)
end TD
namespace TS
/-! Bellman-Ford over lists of integers -/
abbrev Arc := Nat × Nat × Int
def gt (f : List Int) (i : Nat) : Int := f.getD i 0
theorem gt_set (f : List Int) (v i : Nat) (x : Int) : gt (f.set v x) i = if v = i ∧ v < f.length then x else gt f i := by
  unfold gt
  rw [List.getD_eq_getElem?_getD, List.getD_eq_getElem?_getD, List.getElem?_set]
  split
  · next h =>
    subst h
    split
    · next q => rw [if_pos ⟨rfl, q⟩]; rfl
    · next q => rw [if_neg (fun z => q z.2), List.getElem?_eq_none (by omega)]
  · next h => rw [if_neg (fun z => h z.1)]
theorem gt_in {f : List Int} {i : Nat} (h : i < f.length) : gt f i = f[i] := by
  unfold gt
  rw [List.getD_eq_getElem?_getD, List.getElem?_eq_getElem h]; rfl
theorem gt_out {f : List Int} {i : Nat} (h : f.length ≤ i) : gt f i = 0 := by
  unfold gt
  rw [List.getD_eq_getElem?_getD, List.getElem?_eq_none h]; rfl
def relax (f : List Int) (a : Arc) : List Int := f.set a.2.1 (max (gt f a.2.1) (gt f a.1 + a.2.2))
def round (arcs : List Arc) (f : List Int) : List Int := arcs.foldl relax f
def bf : Nat → List Arc → List Int → Option (List Int)
  | 0, _, _ => none
  | k + 1, arcs, f => if f = round arcs f then some (round arcs f) else bf k arcs (round arcs f)
theorem relax_len (f a) : (relax f a).length = f.length := by simp [relax]
theorem round_len : ∀ (arcs : List Arc) (f : List Int), (round arcs f).length = f.length
  | [], _ => rfl
  | a :: r, f => by
    show (round r (relax f a)).length = _
    rw [round_len r, relax_len]
theorem gt_relax (f : List Int) (a : Arc) (i : Nat) : gt (relax f a) i = if a.2.1 = i ∧ a.2.1 < f.length then max (gt f a.2.1) (gt f a.1 + a.2.2) else gt f i := by
  unfold relax; rw [gt_set]
theorem relax_ge (f a i) : gt f i ≤ gt (relax f a) i := by
  rw [gt_relax]; split
  · next h => obtain ⟨rfl, _⟩ := h; omega
  · omega
theorem round_ge : ∀ (arcs : List Arc) (f : List Int) (i : Nat), gt f i ≤ gt (round arcs f) i
  | [], _, _ => Int.le_refl _
  | a :: r, f, i => Int.le_trans (relax_ge f a i) (round_ge r (relax f a) i)
theorem ext_gt {f g : List Int} (hl : f.length = g.length) (h : ∀ i, gt f i = gt g i) : f = g := by
  apply List.ext_getElem hl
  intro i h1 h2
  have := h i
  rw [gt_in h1, gt_in h2] at this
  exact this
/-- the arcs' ends lie below n -/
def InN (n : Nat) (arcs : List Arc) : Prop := ∀ a ∈ arcs, a.1 < n ∧ a.2.1 < n
def Feas (arcs : List Arc) (p : Nat → Int) : Prop := ∀ a ∈ arcs, p a.1 + a.2.2 ≤ p a.2.1
theorem round_fix : ∀ (arcs : List Arc) (f : List Int), InN f.length arcs → round arcs f = f → Feas arcs (gt f)
  | [], _, _, _ => fun a h => by cases h
  | a :: r, f, hn, h => by
    have h1 : round r (relax f a) = f := h
    have e : relax f a = f := by
      refine ext_gt (relax_len f a) fun i => ?_
      have q1 := relax_ge f a i
      have q2 := round_ge r (relax f a) i
      rw [h1] at q2
      omega
    rw [e] at h1
    have ih := round_fix r f (fun b hb => hn b (List.mem_cons_of_mem _ hb)) h1
    intro b hb
    rcases List.mem_cons.mp hb with rfl | hb
    · have q := gt_relax f b b.2.1
      rw [e, if_pos ⟨rfl, (hn b (List.mem_cons_self)).2⟩] at q
      omega
    · exact ih b hb
theorem relax_le {f : List Int} {a : Arc} {p : Nat → Int} (hp : p a.1 + a.2.2 ≤ p a.2.1) (hu : a.1 < f.length) (h : ∀ i, i < f.length → gt f i ≤ p i) : ∀ i, i < f.length → gt (relax f a) i ≤ p i := by
  intro i hi
  rw [gt_relax]
  split
  · next q =>
    obtain ⟨rfl, q⟩ := q
    have := h _ q
    have := h _ hu
    omega
  · exact h i hi
theorem round_le {p : Nat → Int} : ∀ (arcs : List Arc) (f : List Int), InN f.length arcs → Feas arcs p → (∀ i, i < f.length → gt f i ≤ p i) → ∀ i, i < f.length → gt (round arcs f) i ≤ p i
  | [], _, _, _, h => h
  | a :: r, f, hn, hp, h => by
    intro i hi
    have h1 := relax_le (hp a List.mem_cons_self) (hn a List.mem_cons_self).1 h
    have e := relax_len f a
    exact round_le r (relax f a) (by rw [e]; exact fun b hb => hn b (List.mem_cons_of_mem _ hb)) (fun b hb => hp b (List.mem_cons_of_mem _ hb)) (by rw [e]; exact h1) i (by rw [e]; exact hi)
theorem round_arc : ∀ (arcs : List Arc) (f : List Int), InN f.length arcs → ∀ a ∈ arcs, gt f a.1 + a.2.2 ≤ gt (round arcs f) a.2.1
  | [], _, _, a, h => by cases h
  | b :: r, f, hn, a, h => by
    have e := relax_len f b
    rcases List.mem_cons.mp h with rfl | h
    · have q := round_ge r (relax f a) a.2.1
      have q2 := gt_relax f a a.2.1
      rw [if_pos ⟨rfl, (hn a List.mem_cons_self).2⟩] at q2
      show _ ≤ gt (round r (relax f a)) _
      omega
    · have q := round_arc r (relax f b) (by rw [e]; exact fun c hc => hn c (List.mem_cons_of_mem _ hc)) a h
      have q2 := relax_ge f b a.1
      show _ ≤ gt (round r (relax f b)) _
      omega
theorem bf_sound : ∀ (k : Nat) (arcs : List Arc) (f g : List Int), InN f.length arcs → bf k arcs f = some g → g.length = f.length ∧ Feas arcs (gt g) ∧ ∀ i, gt f i ≤ gt g i
  | 0, _, _, _, _, h => by cases h
  | k + 1, arcs, f, g, hn, h => by
    unfold bf at h
    split at h
    · next e =>
      cases h
      refine ⟨round_len _ _, ?_, round_ge _ _⟩
      have q := round_fix arcs f hn e.symm
      rw [← e]; exact q
    · have e := round_len arcs f
      obtain ⟨h1, h2, h3⟩ := bf_sound k arcs (round arcs f) g (by rw [e]; exact hn) h
      exact ⟨h1.trans e, h2, fun i => Int.le_trans (round_ge arcs f i) (h3 i)⟩
theorem bf_le {p : Nat → Int} : ∀ (k : Nat) (arcs : List Arc) (f g : List Int), InN f.length arcs → Feas arcs p → (∀ i, i < f.length → gt f i ≤ p i) → bf k arcs f = some g → ∀ i, i < f.length → gt g i ≤ p i
  | 0, _, _, _, _, _, _, h => by cases h
  | k + 1, arcs, f, g, hn, hp, hle, h => by
    have q := round_le arcs f hn hp hle
    unfold bf at h
    split at h
    · cases h; exact q
    · have e := round_len arcs f
      intro i hi
      exact bf_le k arcs (round arcs f) g (by rw [e]; exact hn) hp (by rw [e]; exact q) h i (by rw [e]; exact hi)
/-! sums and counts below n -/
def sumTo (p : Nat → Int) : Nat → Int
  | 0 => 0
  | n + 1 => sumTo p n + p n
def cntTo (p : Nat → Bool) : Nat → Nat
  | 0 => 0
  | n + 1 => cntTo p n + (if p n then 1 else 0)
theorem sumTo_nonneg {p : Nat → Int} : ∀ n, (∀ i, i < n → 0 ≤ p i) → 0 ≤ sumTo p n
  | 0, _ => Int.le_refl _
  | n + 1, h => by
    have := sumTo_nonneg n fun i hi => h i (by omega)
    have := h n (by omega)
    unfold sumTo; omega
theorem sumTo_le {p q : Nat → Int} : ∀ n, (∀ i, i < n → p i ≤ q i) → sumTo p n ≤ sumTo q n
  | 0, _ => Int.le_refl _
  | n + 1, h => by
    have := sumTo_le n fun i hi => h i (by omega)
    have := h n (by omega)
    unfold sumTo; omega
theorem sumTo_lt {p q : Nat → Int} : ∀ n, (∀ i, i < n → p i ≤ q i) → (∃ i, i < n ∧ p i < q i) → sumTo p n < sumTo q n
  | 0, _, ⟨i, h, _⟩ => by omega
  | n + 1, h, ⟨i, hi, hlt⟩ => by
    have h1 := sumTo_le n fun i hi => h i (by omega)
    have h2 := h n (by omega)
    unfold sumTo
    by_cases e : i = n
    · subst e; omega
    · have := sumTo_lt n (fun i hi => h i (by omega)) ⟨i, by omega, hlt⟩
      omega
theorem cntTo_le (p : Nat → Bool) : ∀ n, cntTo p n ≤ n
  | 0 => Nat.le_refl _
  | n + 1 => by
    have := cntTo_le p n
    unfold cntTo; split <;> omega
theorem cntTo_mono {p q : Nat → Bool} : ∀ n, (∀ i, i < n → p i = true → q i = true) → cntTo p n ≤ cntTo q n
  | 0, _ => Nat.le_refl _
  | n + 1, h => by
    have h1 := cntTo_mono n fun i hi => h i (by omega)
    have h2 := h n (by omega)
    unfold cntTo
    cases e : p n <;> cases e2 : q n <;> simp_all <;> omega
theorem cntTo_lt {p q : Nat → Bool} : ∀ n, (∀ i, i < n → p i = true → q i = true) → (∃ i, i < n ∧ p i = false ∧ q i = true) → cntTo p n < cntTo q n
  | 0, _, ⟨i, h, _⟩ => by omega
  | n + 1, h, ⟨i, hi, h1, h2⟩ => by
    have m := cntTo_mono n fun i hi => h i (by omega)
    have hn := h n (by omega)
    unfold cntTo
    by_cases e : i = n
    · subst e; rw [h1, h2]; simp; omega
    · have := cntTo_lt n (fun i hi => h i (by omega)) ⟨i, by omega, h1, h2⟩
      cases e1 : p n <;> cases e2 : q n <;> simp_all <;> omega
theorem cntTo_all {p : Nat → Bool} : ∀ n, n ≤ cntTo p n → ∀ i, i < n → p i = true
  | 0, _ => fun i h => by omega
  | n + 1, h => by
    unfold cntTo at h
    have q := cntTo_le p n
    have hn : p n = true := by
      cases e : p n
      · rw [e] at h; simp at h; omega
      · rfl
    rw [hn] at h; simp at h
    intro i hi
    by_cases e : i = n
    · subst e; exact hn
    · exact cntTo_all n h i (by omega)
theorem cntTo_pos {p : Nat → Bool} (n i : Nat) (hi : i < n) (h : p i = true) : 0 < cntTo p n := by
  have := cntTo_lt (p := fun _ => false) (q := p) n (fun _ _ z => by cases z) ⟨i, hi, rfl, h⟩
  omega
/-- converges where a least-sum potential stands -/
theorem bf_conv {arcs : List Arc} {p : Nat → Int} {n : Nat} (hn : InN n arcs) (hp : Feas arcs p) (h0 : ∀ i, i < n → 0 ≤ p i)
    (hmin : ∀ q : Nat → Int, Feas arcs q → (∀ i, i < n → 0 ≤ q i) → sumTo p n ≤ sumTo q n) :
    ∀ (k : Nat) (f : List Int), f.length = n → (∀ i, i < n → 0 ≤ gt f i) → (∀ i, i < n → gt f i ≤ p i) → n + 1 ≤ k + cntTo (fun i => decide (gt f i = p i)) n → ∃ g, bf k arcs f = some g
  | 0, f, _, _, _, hk => by
    have := cntTo_le (fun i => decide (gt f i = p i)) n
    omega
  | k + 1, f, hl, hf0, hfp, hk => by
    have gl := round_le arcs f (by rw [hl]; exact hn) hp (by rw [hl]; exact hfp)
    rw [hl] at gl
    have gg := round_ge arcs f
    unfold bf
    split
    · exact ⟨_, rfl⟩
    · next ne =>
      refine bf_conv hn hp h0 hmin k (round arcs f) (by rw [round_len, hl]) (fun i hi => Int.le_trans (hf0 i hi) (gg i)) gl ?_
      have lt : cntTo (fun i => decide (gt f i = p i)) n < cntTo (fun i => decide (gt (round arcs f) i = p i)) n := by
        refine cntTo_lt n (fun i hi e => ?_) ?_
        · have e := of_decide_eq_true e
          have := gg i
          have := gl i hi
          exact decide_eq_true (by omega)
        · -- some tight arc leaves the set
          refine Classical.byContradiction fun no => ?_
          have no' : ∀ i, i < n → gt f i ≠ p i → gt (round arcs f) i ≠ p i := fun i hi h1 h2 => no ⟨i, hi, decide_eq_false h1, decide_eq_true h2⟩
          by_cases all : ∀ i, i < n → gt f i = p i
          · apply ne
            refine ext_gt (round_len _ _).symm fun i => ?_
            by_cases hi : i < n
            · have := gg i; have := gl i hi; have := all i hi; omega
            · rw [gt_out (by omega), gt_out (by rw [round_len]; omega)]
          · obtain ⟨j, hj⟩ := Classical.not_forall.mp all
            obtain ⟨hjn, hjne⟩ := Classical.not_imp.mp hj
            have q := hmin (fun i => if gt f i = p i then p i else p i - 1) (fun a ha => ?_) (fun i hi => ?_)
            · have := sumTo_lt (p := fun i => if gt f i = p i then p i else p i - 1) (q := p) n (fun i _ => by show (if gt f i = p i then p i else p i - 1) ≤ p i; split <;> omega) ⟨j, hjn, by show (if gt f j = p j then p j else p j - 1) < p j; rw [if_neg hjne]; omega⟩
              omega
            · have hpa := hp a ha
              have ra := round_arc arcs f (by rw [hl]; exact hn) a ha
              have na := hn a ha
              show (if gt f a.1 = p a.1 then p a.1 else p a.1 - 1) + a.2.2 ≤ (if gt f a.2.1 = p a.2.1 then p a.2.1 else p a.2.1 - 1)
              by_cases e1 : gt f a.1 = p a.1 <;> by_cases e2 : gt f a.2.1 = p a.2.1
              · rw [if_pos e1, if_pos e2]; exact hpa
              · rw [if_pos e1, if_neg e2]
                have := no' _ na.2 e2
                have := gl _ na.2
                omega
              · rw [if_neg e1, if_pos e2]; omega
              · rw [if_neg e1, if_neg e2]; omega
            · show 0 ≤ (if gt f i = p i then p i else p i - 1)
              have := h0 i hi
              have := hf0 i hi
              have := hfp i hi
              split <;> omega
      omega
theorem least_pot {arcs : List Arc} {n : Nat} : ∀ (N : Nat) (p : Nat → Int), Feas arcs p → (∀ i, i < n → 0 ≤ p i) → sumTo p n ≤ N →
    ∃ p', Feas arcs p' ∧ (∀ i, i < n → 0 ≤ p' i) ∧ ∀ q : Nat → Int, Feas arcs q → (∀ i, i < n → 0 ≤ q i) → sumTo p' n ≤ sumTo q n
  | N, p, hp, h0, hN => by
    by_cases h : ∃ q : Nat → Int, Feas arcs q ∧ (∀ i, i < n → 0 ≤ q i) ∧ sumTo q n < sumTo p n
    · obtain ⟨q, q1, q2, q3⟩ := h
      have := sumTo_nonneg n q2
      match N, hN with
      | 0, hN => omega
      | N + 1, hN => exact least_pot N q q1 q2 (by omega)
    · exact ⟨p, hp, h0, fun q q1 q2 => Int.not_lt.mp fun q3 => h ⟨q, q1, q2, q3⟩⟩
def zeros (n : Nat) : List Int := List.replicate n 0
theorem gt_zeros (n i : Nat) : gt (zeros n) i = 0 := by
  unfold gt zeros
  rw [List.getD_eq_getElem?_getD, List.getElem?_replicate]
  split <;> rfl
theorem zeros_len (n : Nat) : (zeros n).length = n := List.length_replicate
/-- a potential stands: the rounds come to an end within n of them -/
theorem bf_some {arcs : List Arc} {n : Nat} (hn0 : 0 < n) (hn : InN n arcs) (p : Nat → Int) (hp : Feas arcs p) (h0 : ∀ i, i < n → 0 ≤ p i) : ∀ k, n ≤ k → ∃ g, bf k arcs (zeros n) = some g := by
  intro k hk
  obtain ⟨p', h1, h2, h3⟩ := least_pot (arcs := arcs) (n := n) (sumTo p n).toNat p hp h0 (by omega)
  refine bf_conv hn h1 h2 h3 k (zeros n) (zeros_len n) (fun i _ => by rw [gt_zeros]; omega) (fun i hi => by rw [gt_zeros]; exact h2 i hi) ?_
  have : 0 < cntTo (fun i => decide (gt (zeros n) i = p' i)) n := by
    refine Classical.byContradiction fun no => ?_
    have pos : ∀ i, i < n → 0 < p' i := fun i hi => by
      have := h2 i hi
      have : ¬ (0 : Int) = p' i := fun e => no (cntTo_pos n i hi (decide_eq_true (by rw [gt_zeros]; exact e)))
      omega
    have q := h3 (fun i => p' i - 1) (fun a ha => by have := h1 a ha; show p' a.1 - 1 + a.2.2 ≤ p' a.2.1 - 1; omega) (fun i hi => by have := pos i hi; show 0 ≤ p' i - 1; omega)
    have := sumTo_lt (p := fun i => p' i - 1) (q := p') n (fun i _ => by show p' i - 1 ≤ p' i; omega) ⟨0, hn0, by show p' 0 - 1 < p' 0; omega⟩
    omega
  omega
/-- shifting a potential above nought -/
theorem pot_up {arcs : List Arc} {p : Nat → Int} (n : Nat) (hp : Feas arcs p) : ∃ q : Nat → Int, Feas arcs q ∧ (∀ i, i < n → 0 ≤ q i) ∧ ∃ c, ∀ i, q i = p i + c := by
  have low : ∃ c : Int, ∀ i, i < n → -c ≤ p i := by
    induction n with
    | zero => exact ⟨0, fun i h => by omega⟩
    | succ n ih =>
      obtain ⟨c, hc⟩ := ih
      refine ⟨max c (- p n), fun i hi => ?_⟩
      by_cases e : i = n
      · subst e; omega
      · have := hc i (by omega); omega
  obtain ⟨c, hc⟩ := low
  exact ⟨fun i => p i + c, fun a ha => by have := hp a ha; show p a.1 + c + a.2.2 ≤ p a.2.1 + c; omega, fun i hi => by have := hc i hi; show 0 ≤ p i + c; omega, c, fun _ => rfl⟩
theorem bf_iff {arcs : List Arc} {n k : Nat} (hn0 : 0 < n) (hn : InN n arcs) (hk : n ≤ k) : (∃ g, bf k arcs (zeros n) = some g) ↔ ∃ p : Nat → Int, Feas arcs p := by
  constructor
  · rintro ⟨g, hg⟩
    exact ⟨gt g, (bf_sound k arcs _ g (by rw [zeros_len]; exact hn) hg).2.1⟩
  · rintro ⟨p, hp⟩
    obtain ⟨q, h1, h2, _⟩ := pot_up n hp
    exact bf_some hn0 hn q h1 h2 k hk
end TS
namespace TS
/-! pigeonhole -/
theorem nodup_le : ∀ (n : Nat) (l : List Nat), l.Nodup → (∀ x ∈ l, x < n) → l.length ≤ n
  | 0, l, _, h => by
    cases l with
    | nil => exact Nat.le_refl _
    | cons x r => exact absurd (h x List.mem_cons_self) (Nat.not_lt_zero _)
  | n + 1, l, hd, h => by
    by_cases hm : n ∈ l
    · have h1 : (l.erase n).Nodup := hd.erase n
      have h2 : n ∉ l.erase n := fun z => by
        have := (List.Nodup.mem_erase_iff hd).mp z
        exact this.1 rfl
      have := nodup_le n (l.erase n) h1 fun x hx => by
        have q := h x (List.mem_of_mem_erase hx)
        have : x ≠ n := fun e => h2 (e ▸ hx)
        omega
      have e := List.length_erase_of_mem hm
      omega
    · have := nodup_le n l hd fun x hx => by
        have q := h x hx
        have : x ≠ n := fun e => hm (e ▸ hx)
        omega
      omega
/-! pairs of neighbours along a list, round a list -/
def cp : List Nat → List (Nat × Nat)
  | x :: y :: r => (x, y) :: cp (y :: r)
  | _ => []
def rnd : List Nat → List (Nat × Nat)
  | [] => []
  | x :: t => cp (x :: t ++ [x])
def sw (p : Nat × Nat) : Nat × Nat := (p.2, p.1)
theorem cp_mid : ∀ (a : List Nat) (x : Nat) (b : List Nat), cp (a ++ x :: b) = cp (a ++ [x]) ++ cp (x :: b)
  | [], x, b => by simp [cp]
  | [y], x, b => by simp [cp]
  | y :: z :: a, x, b => by
    have := cp_mid (z :: a) x b
    simp only [List.cons_append] at this ⊢
    simp only [cp]
    rw [this]; rfl
theorem cp_rev : ∀ (l : List Nat), cp l.reverse = (cp l).reverse.map sw
  | [] => rfl
  | [x] => rfl
  | x :: y :: r => by
    have e : (x :: y :: r).reverse = r.reverse ++ y :: [x] := by simp
    have ih := cp_rev (y :: r)
    rw [e, cp_mid]
    have e2 : r.reverse ++ [y] = (y :: r).reverse := by simp
    rw [e2, ih]
    simp [cp, sw]
theorem cp_len : ∀ (l : List Nat), (cp l).length = l.length - 1
  | [] => rfl
  | [_] => rfl
  | x :: y :: r => by
    have := cp_len (y :: r)
    simp only [cp, List.length_cons] at this ⊢
    omega
theorem rnd_len (l : List Nat) : (rnd l).length = l.length := by
  cases l with
  | nil => rfl
  | cons x t => simp [rnd, cp_len]
theorem rnd_rot (a b : List Nat) : (rnd (a ++ b)).Perm (rnd (b ++ a)) := by
  cases a with
  | nil => simp
  | cons x a =>
    cases b with
    | nil => simp
    | cons y b =>
      have e1 : rnd (x :: a ++ y :: b) = cp (x :: a ++ [y]) ++ cp (y :: b ++ [x]) := by
        show cp (x :: a ++ y :: b ++ [x]) = _
        rw [List.append_assoc]
        exact cp_mid (x :: a) y (b ++ [x])
      have e2 : rnd (y :: b ++ x :: a) = cp (y :: b ++ [x]) ++ cp (x :: a ++ [y]) := by
        show cp (y :: b ++ x :: a ++ [y]) = _
        rw [List.append_assoc]
        exact cp_mid (y :: b) x (a ++ [y])
      rw [e1, e2]
      exact List.perm_append_comm
theorem rnd_turn (m : Nat) (t : List Nat) : (rnd (m :: t.reverse)).Perm ((rnd (m :: t)).map sw) := by
  show (cp (m :: t.reverse ++ [m])).Perm ((cp (m :: t ++ [m])).map sw)
  have e : m :: t.reverse ++ [m] = (m :: t ++ [m]).reverse := by simp
  rw [e, cp_rev]
  exact (List.reverse_perm _).map sw
/-! sums along pairs -/
def isum : List Int → Int
  | [] => 0
  | x :: r => x + isum r
theorem isum_append : ∀ a b : List Int, isum (a ++ b) = isum a + isum b
  | [], b => by simp [isum]
  | x :: a, b => by simp only [List.cons_append, isum]; rw [isum_append a b]; omega
theorem isum_perm {a b : List Int} (h : a.Perm b) : isum a = isum b := by
  induction h with
  | nil => rfl
  | cons x _ ih => simp only [isum]; rw [ih]
  | swap x y l => simp only [isum]; omega
  | trans _ _ h1 h2 => exact h1.trans h2
/-- a potential's differences round a list come to nothing -/
theorem cp_tel (p : Nat → Int) : ∀ (x : Nat) (t : List Nat) (y : Nat), isum ((cp (x :: t ++ [y])).map fun q => p q.2 - p q.1) = p y - p x
  | x, [], y => by simp [cp, isum]
  | x, z :: t, y => by
    have := cp_tel p z t y
    simp only [List.cons_append] at this ⊢
    simp only [cp, List.map_cons, isum]
    rw [this]; omega
theorem rnd_tel (p : Nat → Int) (l : List Nat) : isum ((rnd l).map fun q => p q.2 - p q.1) = 0 := by
  cases l with
  | nil => rfl
  | cons x t =>
    show isum ((cp (x :: t ++ [x])).map fun q => p q.2 - p q.1) = 0
    rw [cp_tel]; omega
theorem isum_le {α : Type} {f g : α → Int} : ∀ (l : List α), (∀ x ∈ l, f x ≤ g x) → isum (l.map f) ≤ isum (l.map g)
  | [], _ => Int.le_refl _
  | x :: r, h => by
    have := h x List.mem_cons_self
    have := isum_le r fun y hy => h y (List.mem_cons_of_mem _ hy)
    simp only [List.map_cons, isum]; omega
/-! no simple ring of arcs is above nought: a potential stands -/
section
variable {adj : Nat → Nat → Prop} {wt : Nat → Nat → Int} {n : Nat}
/-- a path, its end first -/
def Pth (adj : Nat → Nat → Prop) (n : Nat) (l : List Nat) : Prop := l.Nodup ∧ (∀ x ∈ l, x < n) ∧ ∀ q ∈ cp l, adj q.2 q.1
def pw (wt : Nat → Nat → Int) (l : List Nat) : Int := isum ((cp l).map fun q => wt q.2 q.1)
theorem Pth.right {a b : List Nat} (h : Pth adj n (a ++ b)) : Pth adj n b := by
  refine ⟨(List.nodup_append.mp h.1).2.1, fun x hx => h.2.1 x (List.mem_append_right _ hx), fun q hq => h.2.2 q ?_⟩
  cases b with
  | nil => cases hq
  | cons x b => rw [cp_mid]; exact List.mem_append_right _ hq
theorem max_of : ∀ (l : List Int), l ≠ [] → ∃ m ∈ l, ∀ x ∈ l, x ≤ m
  | [], h => (h rfl).elim
  | [x], _ => ⟨x, List.mem_cons_self, fun y hy => by cases List.mem_singleton.mp hy; exact Int.le_refl _⟩
  | x :: y :: r, _ => by
    obtain ⟨m, h1, h2⟩ := max_of (y :: r) (by simp)
    by_cases h : m ≤ x
    · refine ⟨x, List.mem_cons_self, fun z hz => ?_⟩
      rcases List.mem_cons.mp hz with rfl | hz
      · exact Int.le_refl _
      · exact Int.le_trans (h2 z hz) h
    · refine ⟨m, List.mem_cons_of_mem _ h1, fun z hz => ?_⟩
      rcases List.mem_cons.mp hz with rfl | hz
      · omega
      · exact h2 z hz
def allP (n : Nat) : Nat → List (List Nat)
  | 0 => [[]]
  | k + 1 => allP n k ++ (List.range n).flatMap fun x => (allP n k).map (x :: ·)
theorem mem_allP : ∀ (k : Nat) (l : List Nat), l.length ≤ k → (∀ x ∈ l, x < n) → l ∈ allP n k
  | 0, l, h, _ => by
    have : l = [] := List.length_eq_zero_iff.mp (by omega)
    subst this; simp [allP]
  | k + 1, l, h, hn => by
    unfold allP
    cases l with
    | nil => exact List.mem_append_left _ (mem_allP k [] (by simp) (by simp))
    | cons x r =>
      refine List.mem_append_right _ (List.mem_flatMap.mpr ⟨x, List.mem_range.mpr (hn x List.mem_cons_self), List.mem_map.mpr ⟨r, mem_allP k r (by simpa using h) fun y hy => hn y (List.mem_cons_of_mem _ hy), rfl⟩⟩)
open Classical in
/-- the best path that ends at v -/
theorem best (v : Nat) (hv : v < n) : ∃ m : Int, (∃ r, Pth adj n (v :: r) ∧ pw wt (v :: r) = m) ∧ ∀ r, Pth adj n (v :: r) → pw wt (v :: r) ≤ m := by
  obtain ⟨m, h1, h2⟩ := max_of (((allP n n).filter fun r => decide (Pth adj n (v :: r))).map fun r => pw wt (v :: r)) (by
    have : ([] : List Nat) ∈ (allP n n).filter fun r => decide (Pth adj n (v :: r)) := List.mem_filter.mpr ⟨mem_allP n [] (by simp) (by simp), decide_eq_true ⟨by simp, by simpa using hv, by simp [cp]⟩⟩
    intro e
    rw [List.map_eq_nil_iff] at e
    rw [e] at this; cases this)
  refine ⟨m, ?_, fun r hr => h2 _ (List.mem_map.mpr ⟨r, List.mem_filter.mpr ⟨mem_allP n r ?_ fun x hx => hr.2.1 x (List.mem_cons_of_mem _ hx), decide_eq_true hr⟩, rfl⟩)⟩
  · obtain ⟨r, hr, e⟩ := List.mem_map.mp h1
    exact ⟨r, of_decide_eq_true (List.mem_filter.mp hr).2, e⟩
  · have := nodup_le n (v :: r) hr.1 hr.2.1
    simp at this; omega
theorem pw_mid (a : List Nat) (x : Nat) (b : List Nat) : pw wt (a ++ x :: b) = pw wt (a ++ [x]) + pw wt (x :: b) := by
  unfold pw
  rw [cp_mid, List.map_append, isum_append]
/-- rings of arcs, the end first: the last arc leads from the head to the end of the list -/
theorem pot_of (irr : ∀ u v, adj u v → u ≠ v)
    (hc : ∀ (u : Nat) (a : List Nat) (v : Nat), Pth adj n (u :: a ++ [v]) → adj u v → pw wt (u :: a ++ [v]) + wt u v ≤ 0) :
    ∃ p : Nat → Int, ∀ u v, u < n → v < n → adj u v → p u + wt u v ≤ p v := by
  have hb : ∀ v, ∃ m : Int, v < n → (∃ r, Pth adj n (v :: r) ∧ pw wt (v :: r) = m) ∧ ∀ r, Pth adj n (v :: r) → pw wt (v :: r) ≤ m := fun v => by
    by_cases h : v < n
    · obtain ⟨m, hm⟩ := best (adj := adj) (wt := wt) v h
      exact ⟨m, fun _ => hm⟩
    · exact ⟨0, fun z => (h z).elim⟩
  refine ⟨fun v => Classical.choose (hb v), fun u v hu hv ha => ?_⟩
  obtain ⟨⟨r, h1, h2⟩, _⟩ := Classical.choose_spec (hb u) hu
  obtain ⟨_, h3⟩ := Classical.choose_spec (hb v) hv
  show Classical.choose (hb u) + wt u v ≤ Classical.choose (hb v)
  rw [← h2]
  by_cases hm : v ∈ u :: r
  · have ne : v ≠ u := fun e => irr u v ha e.symm
    have hr : v ∈ r := (List.mem_cons.mp hm).resolve_left ne
    obtain ⟨a, b, rfl⟩ := List.append_of_mem hr
    have e : pw wt (u :: (a ++ v :: b)) = pw wt (u :: a ++ [v]) + pw wt (v :: b) := pw_mid (u :: a) v b
    have h1' : Pth adj n (u :: a ++ v :: b) := h1
    have q1 : Pth adj n (u :: a ++ [v]) := by
      refine ⟨?_, fun x hx => h1'.2.1 x ?_, fun q hq => h1'.2.2 q ?_⟩
      · have := h1'.1
        rw [show u :: a ++ v :: b = (u :: a ++ [v]) ++ b by simp] at this
        exact (List.nodup_append.mp this).1
      · rcases List.mem_append.mp hx with hx | hx
        · exact List.mem_append_left _ hx
        · exact List.mem_append_right _ (by cases List.mem_singleton.mp hx; exact List.mem_cons_self)
      · rw [cp_mid]; exact List.mem_append_left _ hq
    have q2 := hc u a v q1 ha
    have q3 := h3 b h1'.right
    rw [e]; omega
  · have q := h3 (u :: r) ⟨List.nodup_cons.mpr ⟨hm, h1.1⟩, fun x hx => by
      rcases List.mem_cons.mp hx with rfl | hx
      · exact hv
      · exact h1.2.1 x hx, fun q hq => by
      simp only [cp] at hq
      rcases List.mem_cons.mp hq with rfl | hq
      · exact ha
      · exact h1.2.2 q hq⟩
    have e : pw wt (v :: u :: r) = wt u v + pw wt (u :: r) := by simp [pw, cp, isum]
    omega
end
end TS
namespace TS
/-! what the defs compute, over plain data -/
def arrowsOf (r : List (Nat × Nat)) (sg : List Int) : List (Nat × Nat) := List.zipWith (fun p s => if s = 1 then p else (p.2, p.1)) r sg
def arcs1 (ar : List (Nat × Nat)) : List Arc := ar.map fun p => (p.1, p.2, 1)
def heightsOf (n : Nat) (r : List (Nat × Nat)) (sg : List Int) : Option (List Int) := bf n (arcs1 (arrowsOf r sg)) (zeros n)
structure WebOk (n : Nat) (r : List (Nat × Nat)) : Prop where
  pos : 0 < n
  le : n ≤ 6
  lt : ∀ p ∈ r, p.1 < p.2 ∧ p.2 < n
  len : r.length ≤ 10
  nd : r.Nodup
structure SgOk (r : List (Nat × Nat)) (sg : List Int) : Prop where
  len : sg.length = r.length
  pm : ∀ s ∈ sg, s = 1 ∨ s = -1
theorem arrows_len {r : List (Nat × Nat)} {sg : List Int} (h : sg.length = r.length) : (arrowsOf r sg).length = r.length := by
  unfold arrowsOf; rw [List.length_zipWith]; omega
theorem arrows_lt {n : Nat} {r : List (Nat × Nat)} {sg : List Int} (h : ∀ p ∈ r, p.1 < p.2 ∧ p.2 < n) : ∀ p ∈ arrowsOf r sg, p.1 < n ∧ p.2 < n := by
  intro p hp
  unfold arrowsOf at hp
  rw [List.mem_iff_getElem?] at hp
  obtain ⟨i, hi⟩ := hp
  rw [List.getElem?_zipWith] at hi
  cases e1 : r[i]? with
  | none => rw [e1] at hi; cases hi
  | some q =>
    cases e2 : sg[i]? with
    | none => rw [e1, e2] at hi; cases hi
    | some s =>
      rw [e1, e2] at hi
      have hq := h q (List.mem_of_getElem? e1)
      have hi : (if s = 1 then q else (q.2, q.1)) = p := Option.some.inj hi
      by_cases c : s = 1
      · rw [if_pos c] at hi; subst hi; omega
      · rw [if_neg c] at hi; subst hi; show q.2 < n ∧ q.1 < n; omega
theorem arcs1_in {n : Nat} {ar : List (Nat × Nat)} (h : ∀ p ∈ ar, p.1 < n ∧ p.2 < n) : InN n (arcs1 ar) := by
  intro a ha
  obtain ⟨p, hp, rfl⟩ := List.mem_map.mp ha
  exact h p hp
end TS
namespace TS
def signsBy (r : List (Nat × Nat)) (cs : List Int) : List Int := r.map fun p => if gt cs p.1 < gt cs p.2 then 1 else -1
structure ColOk (n : Nat) (r : List (Nat × Nat)) (cs : List Int) : Prop where
  len : cs.length = n
  rng : ∀ c ∈ cs, 0 ≤ c ∧ c ≤ 20
  prop : ∀ p ∈ r, gt cs p.1 ≠ gt cs p.2
def allSigns : Nat → List (List Int)
  | 0 => [[]]
  | m + 1 => (allSigns m).flatMap fun row => [-1, 1].map fun s => row ++ [s]
theorem allSigns_len : ∀ m, (allSigns m).length = 2 ^ m
  | 0 => rfl
  | m + 1 => by
    have h := allSigns_len m
    have e : ∀ l : List (List Int), (l.flatMap fun row => [-1, 1].map fun (s : Int) => row ++ [s]).length = 2 * l.length := fun l => by
      induction l with
      | nil => rfl
      | cons a l ih => rw [List.flatMap_cons, List.length_append, ih]; simp; omega
    show ((allSigns m).flatMap fun row => [-1, 1].map fun s => row ++ [s]).length = _
    rw [e, h, Nat.pow_succ]; omega
theorem allSigns_le {m : Nat} (h : m ≤ 10) : (allSigns m).length ≤ 1024 := by
  rw [allSigns_len]
  exact Nat.pow_le_pow_right (by decide) h
theorem allSigns_mem : ∀ (m : Nat) (sg : List Int), sg ∈ allSigns m ↔ sg.length = m ∧ ∀ s ∈ sg, s = 1 ∨ s = -1
  | 0, sg => by
    show sg ∈ [[]] ↔ _
    rw [List.mem_singleton]
    constructor
    · rintro rfl; exact ⟨rfl, by simp⟩
    · rintro ⟨h, _⟩; exact List.length_eq_zero_iff.mp h
  | m + 1, sg => by
    show sg ∈ (allSigns m).flatMap (fun row => [-1, 1].map fun s => row ++ [s]) ↔ _
    rw [List.mem_flatMap]
    constructor
    · rintro ⟨row, h1, h2⟩
      obtain ⟨s, h3, rfl⟩ := List.mem_map.mp h2
      obtain ⟨h4, h5⟩ := (allSigns_mem m row).mp h1
      refine ⟨by simp [h4], fun x hx => ?_⟩
      rcases List.mem_append.mp hx with hx | hx
      · exact h5 x hx
      · simp at h3 hx; omega
    · rintro ⟨h1, h2⟩
      have hne : sg ≠ [] := by rintro rfl; simp at h1
      refine ⟨sg.dropLast, (allSigns_mem m _).mpr ⟨by simp [h1], fun s hs => h2 s (List.dropLast_subset _ hs)⟩, List.mem_map.mpr ⟨sg.getLast hne, ?_, List.dropLast_concat_getLast hne⟩⟩
      rcases h2 _ (List.getLast_mem hne) with e | e <;> simp [e]
def ringlessSigns (n : Nat) (r : List (Nat × Nat)) : List (List Int) := (allSigns r.length).filter fun sg => (heightsOf n r sg).isSome
end TS
namespace TS
/-! ### rings -/
def nbrs (r : List (Nat × Nat)) (p : Nat) : List Nat := (r.filter fun q => decide (q.1 = p)).map (·.2) ++ (r.filter fun q => decide (q.2 = p)).map (·.1)
def nbrsS (r : List (Nat × Nat)) (p : Nat) : List Nat := (nbrs r p).mergeSort (fun x y => decide (x ≤ y))
/-- the rings that begin with a way that begins at m and ends at e, its middle b (m :: b ends at e) -/
def waysOn (r : List (Nat × Nat)) : Nat → List Nat → List (List Nat)
  | 0, _ => []
  | k + 1, w => (nbrsS r (w.getLastD 0)).flatMap fun p =>
      (if p = w.headD 0 ∧ 2 < w.length ∧ w.getD 1 0 < w.getLastD 0 then [w] else []) ++ (if w.headD 0 < p ∧ p ∉ w then waysOn r k (w ++ [p]) else [])
def rawRings (n : Nat) (r : List (Nat × Nat)) : List (List Nat) := (List.range n).flatMap fun p => waysOn r n [p]
def leN (a b : List Nat) : Bool := decide (a ≤ b)
def fwd (r : List (Nat × Nat)) (sg : List Int) (ring : List Nat) : Nat := ((rnd ring).filter fun p => decide (p ∈ arrowsOf r sg)).length
/-! ### strains -/
abbrev Str3 := Nat × Nat × Option (List Nat)
def strainStep (r : List (Nat × Nat)) (sg : List Int) (best : Str3) (ring : List Nat) : Str3 :=
  let many := fwd r sg ring
  let few := min many (ring.length - many)
  if best.2.2 = none ∨ best.1 * few < ring.length * best.2.1 then (ring.length / Nat.gcd ring.length few, few / Nat.gcd ring.length few, some ring) else best
def strainOf (r : List (Nat × Nat)) (rings : List (List Nat)) (sg : List Int) : Str3 := rings.foldl (strainStep r sg) (if r = [] then (1, 1, none) else (2, 1, none))
abbrev Ls3 := Option (Nat × Nat × List Int)
def leastStep (r : List (Nat × Nat)) (rings : List (List Nat)) (best : Ls3) (sg : List Int) : Ls3 :=
  match best with
  | none => some ((strainOf r rings sg).1, (strainOf r rings sg).2.1, sg)
  | some (a, b, s) => if (strainOf r rings sg).1 * b < a * (strainOf r rings sg).2.1 then some ((strainOf r rings sg).1, (strainOf r rings sg).2.1, sg) else some (a, b, s)
def leastStrain (r : List (Nat × Nat)) (rings : List (List Nat)) (sgs : List (List Int)) : Ls3 := sgs.foldl (leastStep r rings) none
/-! ### the first of all rows -/
def firstOn (ok : List Int → Int → Bool) (m : Nat) : Nat → List Int → Option (List Int)
  | 0, ts => some ts
  | k + 1, ts => (List.range m).findSome? fun (t : Nat) => if ok ts (t : Int) = true then firstOn ok m k (ts ++ [(t : Int)]) else none
def nearOf (r : List (Nat × Nat)) (ts : List Int) : List Int := (r.filter fun p => decide (p.2 = ts.length)).map fun p => gt ts p.1
def away (hours apart x : Int) : Bool := decide (apart ≤ x) && decide (x ≤ hours - apart)
def ab (x : Int) : Int := if x < 0 then -x else x
def timesOk (r : List (Nat × Nat)) (hours apart : Int) (ts : List Int) (t : Int) : Bool := (nearOf r ts).all fun o => away hours apart (ab (t - o))
def clockOf (n : Nat) (r : List (Nat × Nat)) (hours apart : Nat) : Option (List Int) := firstOn (timesOk r hours apart) hours n []
def areTimes (r : List (Nat × Nat)) (hours apart : Int) (ts : List Int) : Bool := r.all fun p => away hours apart (ab (gt ts p.1 - gt ts p.2))
def colourOk (r : List (Nat × Nat)) (ts : List Int) (t : Int) : Bool := !(nearOf r ts).contains t
def colouringOf (n : Nat) (r : List (Nat × Nat)) (m : Nat) : Option (List Int) := firstOn (colourOk r) m n []
def leastOf (n : Nat) (r : List (Nat × Nat)) : List Nat := ((List.range n).map (· + 1)).filter fun m => (colouringOf n r m).isSome
/-! ### times by signs -/
def arcs2 (ar : List (Nat × Nat)) (hours apart : Int) : List Arc := ar.flatMap fun p => [(p.1, p.2, apart), (p.2, p.1, apart - hours)]
def timesBy (n : Nat) (r : List (Nat × Nat)) (sg : List Int) (hours apart : Int) : Option (List Int) := bf (n + 1) (arcs2 (arrowsOf r sg) hours apart) (zeros n)
/-! ### countings -/
def zadd (a b : List Int) : List Int := List.zipWith (· + ·) a b
def nearP (r : List (Nat × Nat)) (p : Nat) : List Nat := (r.filter fun q => decide (q.2 = p)).map (·.1)
def lotsOn (n : Nat) (r : List (Nat × Nat)) : Nat → List (List Nat) → List Int
  | 0, lots => (List.range (n + 1)).map fun m => if m = lots.length then 1 else 0
  | k + 1, lots =>
    zadd ((List.range lots.length).foldl (fun found i => if (nearP r (n - (k + 1))).any (fun q => decide (q ∈ lots.getD i [])) = true then found
      else zadd found (lotsOn n r k (lots.set i (lots.getD i [] ++ [n - (k + 1)])))) (List.replicate (n + 1) 0)) (lotsOn n r k (lots ++ [[n - (k + 1)]]))
def timesLess (ps : List Int) (k : Int) : List Int := List.zipWith (fun a b => a - k * b) (0 :: ps) (ps ++ [0])
def addAt (found : List Int) (ways : Int) (falling : List Int) : List Int := falling.zipIdx.foldl (fun f q => f.set q.2 (gt f q.2 + ways * q.1)) found
def powStep (st : List Int × List Int) (q : Int × Nat) : List Int × List Int := (addAt st.1 q.1 st.2, timesLess st.2 q.2)
def powersOf (n : Nat) (r : List (Nat × Nat)) : List Int := ((lotsOn n r n []).zipIdx.foldl powStep (List.replicate (n + 1) 0, [1])).1
def valueAt (ps : List Int) (x : Int) : Int := ps.reverse.foldl (fun f c => f * x + c) 0
/-! ### turns -/
def canTurn (r : List (Nat × Nat)) (sg : List Int) (p : Nat) : Bool := !((arrowsOf r sg).map (·.1)).contains p || !((arrowsOf r sg).map (·.2)).contains p
def turnedAt (r : List (Nat × Nat)) (sg : List Int) (p : Nat) : List Int := List.zipWith (fun t s => if p = t.1 ∨ p = t.2 then -s else s) r sg
abbrev Fnd := List (List Int × List Nat)
def look (f : Fnd) (k : List Int) : Option (List Nat) := (f.find? fun p => decide (p.1 = k)).map (·.2)
/-- one place, one row of signs: what is found, what comes later -/
def placeStep (r : List (Nat × Nat)) (one : List Int) (st : Fnd × List (List Int)) (p : Nat) : Fnd × List (List Int) :=
  if canTurn r one p = true then
    if (look st.1 (turnedAt r one p)).isSome = true then st else (st.1 ++ [(turnedAt r one p, (look st.1 one).getD [] ++ [p])], st.2 ++ [turnedAt r one p])
  else st
def oneStep (n : Nat) (r : List (Nat × Nat)) (st : Fnd × List (List Int)) (one : List Int) : Fnd × List (List Int) := (List.range n).foldl (placeStep r one) st
def layer (n : Nat) (r : List (Nat × Nat)) (f : Fnd) (waiting : List (List Int)) : Fnd × List (List Int) := waiting.foldl (oneStep n r) (f, [])
def bfs (n : Nat) (r : List (Nat × Nat)) : Nat → Fnd → List (List Int) → Fnd
  | 0, f, _ => f
  | k + 1, f, [] => f
  | k + 1, f, w :: ws => bfs n r k (layer n r f (w :: ws)).1 (layer n r f (w :: ws)).2
def rowsFrom (n : Nat) (r : List (Nat × Nat)) (sg : List Int) : Fnd := bfs n r 3000 [(sg, [])] [sg]
/-! ### a longest way -/
def minN (l : List Nat) : Nat := l.foldl min (l.headD 0)
def wayFrom (ar : List (Nat × Nat)) (h : List Int) : Nat → List Nat → List Nat
  | 0, w => w
  | k + 1, w => if 0 < gt h (w.headD 0) then wayFrom ar h k (minN ((ar.filter fun p => decide (p.2 = w.headD 0) && decide (gt h p.1 = gt h (w.headD 0) - 1)).map (·.1)) :: w) else w
def topOf (h : List Int) : Int := h.foldl max (h.headD 0)
def wayOf (n : Nat) (r : List (Nat × Nat)) (sg : List Int) (h : List Int) : List Nat := wayFrom (arrowsOf r sg) h (topOf h).toNat [h.idxOf (topOf h)]
end TS
namespace TS
theorem nbrs_len {r : List (Nat × Nat)} (h : ∀ p ∈ r, p.1 < p.2) (p : Nat) : (nbrs r p).length ≤ r.length := by
  unfold nbrs
  rw [List.length_append, List.length_map, List.length_map]
  induction r with
  | nil => simp
  | cons q r ih =>
    have hq := h q List.mem_cons_self
    have ih := ih fun x hx => h x (List.mem_cons_of_mem _ hx)
    rw [List.length_cons]
    by_cases c1 : q.1 = p
    · have c2 : ¬ q.2 = p := by omega
      rw [List.filter_cons_of_pos (by simpa using c1), List.filter_cons_of_neg (by simpa using c2), List.length_cons]; omega
    · by_cases c2 : q.2 = p
      · rw [List.filter_cons_of_neg (by simpa using c1), List.filter_cons_of_pos (by simpa using c2), List.length_cons]; omega
      · rw [List.filter_cons_of_neg (by simpa using c1), List.filter_cons_of_neg (by simpa using c2)]; omega
theorem nbrsS_perm (r : List (Nat × Nat)) (p : Nat) : (nbrsS r p).Perm (nbrs r p) := List.mergeSort_perm _ _
theorem nbrsS_mem {r : List (Nat × Nat)} {p q : Nat} : q ∈ nbrsS r p ↔ (p, q) ∈ r ∨ (q, p) ∈ r := by
  rw [(nbrsS_perm r p).mem_iff]
  unfold nbrs
  rw [List.mem_append, List.mem_map, List.mem_map]
  constructor
  · rintro (⟨⟨a, b⟩, h, rfl⟩ | ⟨⟨a, b⟩, h, rfl⟩)
    · obtain ⟨h1, h2⟩ := List.mem_filter.mp h; simp at h2; subst h2; exact .inl h1
    · obtain ⟨h1, h2⟩ := List.mem_filter.mp h; simp at h2; subst h2; exact .inr h1
  · rintro (h | h)
    · exact .inl ⟨_, List.mem_filter.mpr ⟨h, by simp⟩, rfl⟩
    · exact .inr ⟨_, List.mem_filter.mpr ⟨h, by simp⟩, rfl⟩
def bnd : Nat → Nat
  | 0 => 0
  | k + 1 => 10 * (1 + bnd k)
theorem flat_len {α β : Type} {g : α → List β} {b : Nat} : ∀ (l : List α), (∀ x ∈ l, (g x).length ≤ b) → (l.flatMap g).length ≤ l.length * b
  | [], _ => by simp
  | x :: l, h => by
    rw [List.flatMap_cons, List.length_append, List.length_cons, Nat.add_mul, Nat.one_mul]
    have h1 := h x List.mem_cons_self
    have h2 := flat_len l fun y hy => h y (List.mem_cons_of_mem _ hy)
    omega
def wayStep (r : List (Nat × Nat)) (k : Nat) (w : List Nat) (p : Nat) : List (List Nat) :=
  (if p = w.headD 0 ∧ 2 < w.length ∧ w.getD 1 0 < w.getLastD 0 then [w] else []) ++ (if w.headD 0 < p ∧ p ∉ w then waysOn r k (w ++ [p]) else [])
theorem waysOn_len {r : List (Nat × Nat)} (h : ∀ p ∈ r, p.1 < p.2) (h10 : r.length ≤ 10) : ∀ (k : Nat) (w : List Nat), (waysOn r k w).length ≤ bnd k
  | 0, w => Nat.zero_le _
  | k + 1, w => by
    have one : ∀ p, (wayStep r k w p).length ≤ 1 + bnd k := fun p => by
      unfold wayStep
      rw [List.length_append]
      have q := waysOn_len h h10 k (w ++ [p])
      split <;> split <;> simp <;> omega
    have h1 := flat_len (g := wayStep r k w) (nbrsS r (w.getLastD 0)) fun p _ => one p
    have h2 : (nbrsS r (w.getLastD 0)).length ≤ 10 := by
      rw [(nbrsS_perm _ _).length_eq]
      exact Nat.le_trans (nbrs_len h _) h10
    show ((nbrsS r (w.getLastD 0)).flatMap (wayStep r k w)).length ≤ 10 * (1 + bnd k)
    exact Nat.le_trans h1 (Nat.mul_le_mul_right _ h2)
theorem bnd_mono {a b : Nat} (h : a ≤ b) : bnd a ≤ bnd b := by
  induction h with
  | refl => exact Nat.le_refl _
  | @step m _ ih => show bnd a ≤ 10 * (1 + bnd m); omega
theorem bnd6 {k : Nat} (h : k ≤ 6) : bnd k ≤ 1111110 := Nat.le_trans (bnd_mono h) (by decide)
theorem rnd_zip (x : Nat) (t : List Nat) : rnd (x :: t) = (x :: t).zip (t ++ [x]) := by
  have : ∀ (t : List Nat) (y z : Nat), cp (y :: t ++ [z]) = (y :: t).zip (t ++ [z]) := fun t => by
    induction t with
    | nil => intro y z; rfl
    | cons a t ih => intro y z; show (y, a) :: cp (a :: t ++ [z]) = _; rw [ih]; rfl
  exact this t x x
end TS
namespace TS
theorem nodup_sub {α : Type} [DecidableEq α] : ∀ (l m : List α), l.Nodup → (∀ x ∈ l, x ∈ m) → l.length ≤ m.length
  | [], _, _, _ => Nat.zero_le _
  | x :: l, m, hd, hs => by
    obtain ⟨h1, h2⟩ := List.nodup_cons.mp hd
    have hx := hs x List.mem_cons_self
    have := nodup_sub l (m.erase x) h2 fun y hy => by
      have ne : y ≠ x := fun e => h1 (e ▸ hy)
      exact (List.mem_erase_of_ne ne).mpr (hs y (List.mem_cons_of_mem _ hy))
    rw [List.length_erase_of_mem hx] at this
    have := List.length_pos_of_mem hx
    rw [List.length_cons]; omega
theorem look_some {f : Fnd} {k : List Int} : k ∈ f.map (·.1) ↔ (look f k).isSome = true := by
  unfold look
  rw [Option.isSome_map, List.find?_isSome, List.mem_map]
  constructor
  · rintro ⟨p, hp, rfl⟩; exact ⟨p, hp, by simp⟩
  · rintro ⟨p, hp, e⟩; exact ⟨p, hp, by simpa using e⟩
theorem turned_ok {r : List (Nat × Nat)} {sg : List Int} (h : SgOk r sg) (p : Nat) : SgOk r (turnedAt r sg p) := by
  refine ⟨?_, fun s hs => ?_⟩
  · unfold turnedAt; rw [List.length_zipWith, h.len]; omega
  · unfold turnedAt at hs
    rw [List.mem_iff_getElem?] at hs
    obtain ⟨i, hi⟩ := hs
    rw [List.getElem?_zipWith] at hi
    cases e1 : r[i]? with
    | none => rw [e1] at hi; cases hi
    | some q =>
      cases e2 : sg[i]? with
      | none => rw [e1, e2] at hi; cases hi
      | some t =>
        rw [e1, e2] at hi
        have ht := h.pm t (List.mem_of_getElem? e2)
        have hi : (if p = q.1 ∨ p = q.2 then -t else t) = s := Option.some.inj hi
        split at hi <;> omega
structure BF (r : List (Nat × Nat)) (f0 : Fnd) (st : Fnd × List (List Int)) : Prop where
  nd : (st.1.map (·.1)).Nodup
  sg : ∀ k ∈ st.1.map (·.1), SgOk r k
  sub : ∀ k ∈ f0.map (·.1), k ∈ st.1.map (·.1)
  lat : ∀ k ∈ st.2, k ∈ st.1.map (·.1)
  len : st.1.length = f0.length + st.2.length
  pl : ∀ q ∈ st.1, q.2.length < st.1.length
theorem BF.step {r : List (Nat × Nat)} {f0 : Fnd} {st : Fnd × List (List Int)} (h : BF r f0 st) {one : List Int} (ho : one ∈ f0.map (·.1)) (p : Nat) : BF r f0 (placeStep r one st p) := by
  unfold placeStep
  split
  · split
    · exact h
    · rename_i h2
      have hno : turnedAt r one p ∉ st.1.map (·.1) := fun z => h2 (look_some.mp z)
      refine ⟨?_, fun k hk => ?_, fun k hk => ?_, fun k hk => ?_, ?_, fun q hq => ?_⟩
      · rw [List.map_append]
        rw [List.nodup_append]
        exact ⟨h.nd, by simp, fun a ha b hb e => by simp at hb; subst hb; subst e; exact hno ha⟩
      · rw [List.map_append] at hk
        rcases List.mem_append.mp hk with hk | hk
        · exact h.sg k hk
        · simp at hk; subst hk; exact turned_ok (h.sg one (h.sub one ho)) p
      · rw [List.map_append]; exact List.mem_append.mpr (.inl (h.sub k hk))
      · rw [List.map_append]
        rcases List.mem_append.mp hk with hk | hk
        · exact List.mem_append.mpr (.inl (h.lat k hk))
        · simp at hk; subst hk; simp
      · rw [List.length_append, List.length_append, h.len]; simp; omega
      · rw [List.length_append, List.length_singleton]
        rcases List.mem_append.mp hq with hq | hq
        · have := h.pl q hq; omega
        · simp at hq; subst hq
          show ((look st.1 one).getD [] ++ [p]).length < _
          rw [List.length_append, List.length_singleton]
          have hl : ((look st.1 one).getD []).length < st.1.length := by
            have hs := look_some.mp (h.sub one ho)
            unfold look at hs ⊢
            cases hf : st.1.find? (fun q => decide (q.1 = one)) with
            | none => rw [hf] at hs; cases hs
            | some q => exact h.pl q (List.mem_of_find?_eq_some hf)
          omega
  · exact h
theorem BF.places {r : List (Nat × Nat)} {f0 : Fnd} {one : List Int} (ho : one ∈ f0.map (·.1)) : ∀ (l : List Nat) (st : Fnd × List (List Int)), BF r f0 st → BF r f0 (l.foldl (placeStep r one) st)
  | [], st, h => h
  | p :: l, st, h => BF.places ho l _ (h.step ho p)
theorem BF.ones {n : Nat} {r : List (Nat × Nat)} {f0 : Fnd} : ∀ (l : List (List Int)) (st : Fnd × List (List Int)), (∀ k ∈ l, k ∈ f0.map (·.1)) → BF r f0 st → BF r f0 (l.foldl (oneStep n r) st)
  | [], st, _, h => h
  | one :: l, st, hl, h => BF.ones l _ (fun k hk => hl k (List.mem_cons_of_mem _ hk)) (BF.places (hl one List.mem_cons_self) _ st h)
theorem keys_le {r : List (Nat × Nat)} (h10 : r.length ≤ 10) {f : Fnd} (nd : (f.map (·.1)).Nodup) (sg : ∀ k ∈ f.map (·.1), SgOk r k) : f.length ≤ 1024 := by
  have := nodup_sub (f.map (·.1)) (allSigns r.length) nd fun k hk => (allSigns_mem r.length k).mpr ⟨(sg k hk).len, (sg k hk).pm⟩
  rw [List.length_map] at this
  exact Nat.le_trans this (allSigns_le h10)
end TS
namespace TS
def Prd (arcs : List Arc) (f : List Int) : Prop := ∀ v, gt f v = 0 ∨ ∃ a ∈ arcs, a.2.1 = v ∧ gt f v ≤ gt f a.1 + a.2.2
theorem prd_relax {arcs : List Arc} {f : List Int} {a : Arc} (ha : a ∈ arcs) (h : Prd arcs f) : Prd arcs (relax f a) := by
  intro v
  have ge := relax_ge f a
  by_cases c : a.2.1 = v ∧ a.2.1 < f.length
  · have e : gt (relax f a) v = max (gt f a.2.1) (gt f a.1 + a.2.2) := by rw [gt_relax, if_pos c]
    by_cases m : gt f a.2.1 ≤ gt f a.1 + a.2.2
    · refine .inr ⟨a, ha, c.1, ?_⟩
      have := ge a.1
      rw [e, Int.max_eq_right m]; omega
    · have e2 : gt (relax f a) v = gt f v := by rw [e, Int.max_eq_left (by omega), c.1]
      rcases h v with h | ⟨b, hb, h1, h2⟩
      · exact .inl (by rw [e2]; exact h)
      · refine .inr ⟨b, hb, h1, ?_⟩
        have := ge b.1
        rw [e2]; omega
  · have e2 : gt (relax f a) v = gt f v := by rw [gt_relax, if_neg c]
    rcases h v with h | ⟨b, hb, h1, h2⟩
    · exact .inl (by rw [e2]; exact h)
    · refine .inr ⟨b, hb, h1, ?_⟩
      have := ge b.1
      rw [e2]; omega
theorem prd_round {arcs : List Arc} : ∀ (l : List Arc) (f : List Int), (∀ a ∈ l, a ∈ arcs) → Prd arcs f → Prd arcs (round l f)
  | [], f, _, h => h
  | a :: l, f, hs, h => prd_round l _ (fun b hb => hs b (List.mem_cons_of_mem _ hb)) (prd_relax (hs a List.mem_cons_self) h)
theorem prd_bf {arcs : List Arc} : ∀ (k : Nat) (f g : List Int), bf k arcs f = some g → Prd arcs f → Prd arcs g
  | 0, f, g, e, _ => by cases e
  | k + 1, f, g, e, h => by
    unfold bf at e
    have h2 := prd_round arcs f (fun _ h => h) h
    split at e
    · cases e; exact h2
    · exact prd_bf k _ g e h2
structure Hts (n : Nat) (ar : List (Nat × Nat)) (g : List Int) : Prop where
  len : g.length = n
  nn : ∀ v, 0 ≤ gt g v
  up : ∀ p ∈ ar, gt g p.1 + 1 ≤ gt g p.2
  pr : ∀ v, 0 < gt g v → ∃ p ∈ ar, p.2 = v ∧ gt g p.1 = gt g v - 1
  lt : ∀ v, v < n → gt g v < n
theorem hts_chain {n : Nat} {ar : List (Nat × Nat)} {g : List Int} (hin : ∀ p ∈ ar, p.1 < n ∧ p.2 < n) (nn : ∀ v, 0 ≤ gt g v) (pr : ∀ v, 0 < gt g v → ∃ p ∈ ar, p.2 = v ∧ gt g p.1 = gt g v - 1) :
    ∀ (k v : Nat), v < n → gt g v = (k : Int) → ∃ l : List Nat, l.Nodup ∧ (∀ x ∈ l, x < n ∧ gt g x ≤ (k : Int)) ∧ l.length = k + 1
  | 0, v, hv, e => ⟨[v], by simp, by simpa using ⟨hv, by omega⟩, rfl⟩
  | k + 1, v, hv, e => by
    obtain ⟨p, hp, h1, h2⟩ := pr v (by omega)
    obtain ⟨l, a, b, c⟩ := hts_chain hin nn pr k p.1 (hin p hp).1 (by omega)
    refine ⟨v :: l, List.nodup_cons.mpr ⟨fun z => ?_, a⟩, fun x hx => ?_, by rw [List.length_cons, c]⟩
    · have := (b v z).2; omega
    · rcases List.mem_cons.mp hx with rfl | hx
      · exact ⟨hv, by omega⟩
      · have := b x hx; exact ⟨this.1, by omega⟩
theorem hts_of {n : Nat} {r : List (Nat × Nat)} {sg : List Int} {g : List Int} (wo : WebOk n r) (h : heightsOf n r sg = some g) : Hts n (arrowsOf r sg) g := by
  have hin := arcs1_in (arrows_lt (sg := sg) wo.lt)
  have hin' := arrows_lt (sg := sg) wo.lt
  obtain ⟨h1, h2, h3⟩ := bf_sound n _ (zeros n) g (by rw [zeros_len]; exact hin) h
  rw [zeros_len] at h1
  have nn : ∀ v, 0 ≤ gt g v := fun v => by have := h3 v; rw [gt_zeros] at this; exact this
  have up : ∀ p ∈ arrowsOf r sg, gt g p.1 + 1 ≤ gt g p.2 := fun p hp => h2 (p.1, p.2, 1) (List.mem_map.mpr ⟨p, hp, rfl⟩)
  have hp := prd_bf n (zeros n) g h (fun v => .inl (gt_zeros n v))
  have pr : ∀ v, 0 < gt g v → ∃ p ∈ arrowsOf r sg, p.2 = v ∧ gt g p.1 = gt g v - 1 := fun v hv => by
    rcases hp v with e | ⟨a, ha, e1, e2⟩
    · omega
    · obtain ⟨p, hp, rfl⟩ := List.mem_map.mp ha
      have := up p hp
      refine ⟨p, hp, e1, ?_⟩
      dsimp only at e1 e2
      rw [e1] at this
      omega
  refine ⟨h1, nn, up, pr, fun v hv => ?_⟩
  have e : gt g v = ((gt g v).toNat : Int) := by have := nn v; omega
  obtain ⟨l, a, b, c⟩ := hts_chain hin' nn pr (gt g v).toNat v hv e
  have := nodup_le n l a fun x hx => (b x hx).1
  omega
end TS
namespace TS
theorem bfs_BF {n : Nat} {r : List (Nat × Nat)} : ∀ (k : Nat) (f : Fnd) (wait : List (List Int)), BF r f (f, []) → (∀ q ∈ wait, q ∈ f.map (·.1)) → BF r (bfs n r k f wait) (bfs n r k f wait, [])
  | 0, f, _, h, _ => h
  | k + 1, f, [], h, _ => h
  | k + 1, f, w :: ws, h, hw => by
    have hB : BF r f (layer n r f (w :: ws)) := BF.ones (w :: ws) (f, []) hw h
    exact bfs_BF k _ _ ⟨hB.nd, hB.sg, fun _ h => h, (fun _ h => nomatch h), rfl, hB.pl⟩ hB.lat
theorem rows_BF {n : Nat} {r : List (Nat × Nat)} {sg : List Int} (so : SgOk r sg) : BF r (rowsFrom n r sg) (rowsFrom n r sg, []) :=
  bfs_BF 3000 [(sg, [])] [sg] ⟨by simp, by simpa using so, fun _ h => h, (fun _ h => nomatch h), rfl, by simp⟩ (by simp)
/-! a longest way has as many places as it should -/
theorem minN_mem {l : List Nat} (h : l ≠ []) : minN l ∈ l := by
  have go : ∀ (l : List Nat) (a : Nat), l.foldl min a = a ∨ l.foldl min a ∈ l := fun l => by
    induction l with
    | nil => exact fun a => .inl rfl
    | cons x l ih =>
      intro a
      rw [List.foldl_cons]
      rcases ih (min a x) with e | e
      · rw [e]
        rcases Nat.le_total a x with q | q
        · rw [Nat.min_eq_left q]; exact .inl rfl
        · rw [Nat.min_eq_right q]; exact .inr List.mem_cons_self
      · exact .inr (List.mem_cons_of_mem _ e)
  cases l with
  | nil => exact absurd rfl h
  | cons x l =>
    rcases go (x :: l) x with e | e
    · unfold minN; rw [show (x :: l).headD 0 = x from rfl, e]; exact List.mem_cons_self
    · exact e
theorem minN_le {l : List Nat} : ∀ x ∈ l, minN l ≤ x := by
  have go : ∀ (l : List Nat) (a : Nat), l.foldl min a ≤ a ∧ ∀ x ∈ l, l.foldl min a ≤ x := fun l => by
    induction l with
    | nil => exact fun a => ⟨Nat.le_refl _, fun x h => nomatch h⟩
    | cons x l ih =>
      intro a
      rw [List.foldl_cons]
      obtain ⟨h1, h2⟩ := ih (min a x)
      refine ⟨by omega, fun y hy => ?_⟩
      rcases List.mem_cons.mp hy with rfl | hy
      · omega
      · exact h2 y hy
  exact (go l _).2
def preds (ar : List (Nat × Nat)) (h : List Int) (v : Nat) : List Nat := (ar.filter fun p => decide (p.2 = v) && decide (gt h p.1 = gt h v - 1)).map (·.1)
theorem preds_mem {ar : List (Nat × Nat)} {h : List Int} {v u : Nat} : u ∈ preds ar h v ↔ (u, v) ∈ ar ∧ gt h u = gt h v - 1 := by
  unfold preds
  rw [List.mem_map]
  constructor
  · rintro ⟨⟨a, b⟩, hp, rfl⟩
    obtain ⟨h1, h2⟩ := List.mem_filter.mp hp
    simp at h2
    obtain ⟨rfl, h2⟩ := h2
    exact ⟨h1, h2⟩
  · rintro ⟨h1, h2⟩
    exact ⟨_, List.mem_filter.mpr ⟨h1, by simpa using h2⟩, rfl⟩
theorem topOf_mem {h : List Int} (hne : h ≠ []) : topOf h ∈ h := by
  have go : ∀ (l : List Int) (a : Int), l.foldl max a = a ∨ l.foldl max a ∈ l := fun l => by
    induction l with
    | nil => exact fun a => .inl rfl
    | cons x l ih =>
      intro a
      rw [List.foldl_cons]
      rcases ih (max a x) with e | e
      · rw [e]
        rcases Int.le_total a x with q | q
        · rw [Int.max_eq_right q]; exact .inr List.mem_cons_self
        · rw [Int.max_eq_left q]; exact .inl rfl
      · exact .inr (List.mem_cons_of_mem _ e)
  cases h with
  | nil => exact absurd rfl hne
  | cons x l =>
    rcases go (x :: l) x with e | e
    · unfold topOf; rw [show (x :: l).headD 0 = x from rfl, e]; exact List.mem_cons_self
    · exact e
theorem topOf_le {h : List Int} : ∀ x ∈ h, x ≤ topOf h := by
  have go : ∀ (l : List Int) (a : Int), a ≤ l.foldl max a ∧ ∀ x ∈ l, x ≤ l.foldl max a := fun l => by
    induction l with
    | nil => exact fun a => ⟨Int.le_refl _, fun x h => nomatch h⟩
    | cons x l ih =>
      intro a
      rw [List.foldl_cons]
      obtain ⟨h1, h2⟩ := ih (max a x)
      refine ⟨by omega, fun y hy => ?_⟩
      rcases List.mem_cons.mp hy with rfl | hy
      · omega
      · exact h2 y hy
  exact (go h _).2
theorem wayFrom_len {n : Nat} {ar : List (Nat × Nat)} {h : List Int} (H : Hts n ar h) : ∀ (k : Nat) (v : Nat) (t : List Nat), gt h v = (k : Int) → (wayFrom ar h k (v :: t)).length = k + (t.length + 1)
  | 0, v, t, e => by show (v :: t).length = _; rw [List.length_cons]; omega
  | k + 1, v, t, e => by
    have hpos : 0 < gt h ((v :: t).headD 0) := by show 0 < gt h v; omega
    have hne : preds ar h v ≠ [] := fun z => by
      obtain ⟨p, hp, h1, h2⟩ := H.pr v (by omega)
      have : p.1 ∈ preds ar h v := preds_mem.mpr ⟨by rw [← h1]; exact hp, h2⟩
      rw [z] at this; cases this
    show (if 0 < gt h ((v :: t).headD 0) then wayFrom ar h k (minN (preds ar h v) :: v :: t) else v :: t).length = _
    rw [if_pos hpos, wayFrom_len H k _ (v :: t) (by have := (preds_mem.mp (minN_mem hne)).2; omega), List.length_cons]
    omega
end TS
namespace TS
/-- signs are turned place by place, all well -/
inductive Steps (n : Nat) (r : List (Nat × Nat)) (rings : List (List Nat)) : List Int → List Nat → List Int → Prop
  | nil (a : List Int) : Steps n r rings a [] a
  | cons {a b : List Int} {p : Nat} {ps : List Nat} : p < n → canTurn r a p = true → (∃ h, heightsOf n r (turnedAt r a p) = some h) → (∀ x ∈ rings, fwd r (turnedAt r a p) x = fwd r a x) → Steps n r rings (turnedAt r a p) ps b → Steps n r rings a (p :: ps) b
def altSum (ps : List Int) : Int := ps.zipIdx.foldl (fun s q => s + q.1 * (1 - 2 * ((q.2 : Int) % 2))) 0
/-- what the law leans on -/
structure Facts (n : Nat) (r : List (Nat × Nat)) (rings : List (List Nat)) : Prop where
  least : ∃ m t cs, leastOf n r = m :: t ∧ 1 ≤ m ∧ m ≤ 6 ∧ colouringOf n r m = some cs ∧ ColOk n r cs ∧ (∀ c ∈ cs, c < (m : Int)) ∧ (1 < m → colouringOf n r (m - 1) = none) ∧
    (∃ sg ∈ ringlessSigns n r, ∃ h, heightsOf n r sg = some h ∧ 1 + topOf h = m) ∧ (∀ sg ∈ ringlessSigns n r, ∀ h, heightsOf n r sg = some h → (m : Int) ≤ 1 + topOf h) ∧
    1 ≤ valueAt (powersOf n r) m ∧ valueAt (powersOf n r) ((m : Int) - 1) = 0
  count : ab (valueAt (powersOf n r) (-1)) = ((ringlessSigns n r).length : Int)
  alt : ab (altSum (powersOf n r)) = ((ringlessSigns n r).length : Int)
  col : ∀ sg ∈ ringlessSigns n r, ∀ h, heightsOf n r sg = some h → ColOk n r h ∧ signsBy r h = sg
  led : ∀ a ∈ ringlessSigns n r, ∀ b ∈ ringlessSigns n r, (∀ path, look (rowsFrom n r a) b = some path → Steps n r rings a path b) ∧ (look (rowsFrom n r a) b = none ↔ ∃ x ∈ rings, fwd r a x ≠ fwd r b x)
  clk : ∀ h a : Nat, 1 ≤ a → a ≤ h → h ≤ 12 → ∀ ts, clockOf n r h a = some ts → areTimes r h a ts = true ∧ ∀ t ∈ ts, 0 ≤ t ∧ t ≤ (h : Int) - 1
  low : ∃ x y s, leastStrain r rings (ringlessSigns n r) = some (x, y, s) ∧ (r ≠ [] → ∀ h a : Nat, 1 ≤ a → a ≤ h → h ≤ 12 → ((clockOf n r h a).isSome = true ↔ a * x ≤ h * y))
  tby : r ≠ [] → ∀ sg ∈ ringlessSigns n r, ∀ h a : Nat, 1 ≤ a → a ≤ h → h ≤ 12 → ((timesBy n r sg h a).isSome = true ↔ a * (strainOf r rings sg).1 ≤ h * (strainOf r rings sg).2.1)
theorem rl_of {n : Nat} {r : List (Nat × Nat)} {sg : List Int} (h : sg ∈ ringlessSigns n r) : SgOk r sg ∧ ∃ g, heightsOf n r sg = some g := by
  unfold ringlessSigns at h
  obtain ⟨h1, h2⟩ := List.mem_filter.mp h
  obtain ⟨h3, h4⟩ := (allSigns_mem r.length sg).mp h1
  exact ⟨⟨h3, h4⟩, Option.isSome_iff_exists.mp h2⟩
end TS
namespace TS
theorem mem_gt {c : Int} {cs : List Int} (h : c ∈ cs) : ∃ i, i < cs.length ∧ gt cs i = c := by
  obtain ⟨i, hi, e⟩ := List.mem_iff_getElem.mp h
  exact ⟨i, hi, by rw [gt_in hi]; exact e⟩
theorem gt_mem {cs : List Int} {i : Nat} (h : i < cs.length) : gt cs i ∈ cs := by rw [gt_in h]; exact List.getElem_mem h
theorem gt_take {g : List Int} {i j : Nat} (h : j < i) : gt (g.take i) j = gt g j := by
  unfold gt
  rw [List.getD_eq_getElem?_getD, List.getD_eq_getElem?_getD, List.getElem?_take, if_pos h]
theorem gt_app {a : List Int} {x : Int} : gt (a ++ [x]) a.length = x := by
  unfold gt
  rw [List.getD_eq_getElem?_getD, List.getElem?_append_right (Nat.le_refl _)]; simp
theorem gt_app_l {a b : List Int} {i : Nat} (h : i < a.length) : gt (a ++ b) i = gt a i := by
  unfold gt
  rw [List.getD_eq_getElem?_getD, List.getD_eq_getElem?_getD, List.getElem?_append_left h]
theorem take_succ_gt {g : List Int} {i : Nat} (h : i < g.length) : g.take (i + 1) = g.take i ++ [gt g i] := by
  rw [List.take_add_one, List.getElem?_eq_getElem h, gt_in h]; rfl
/-! ### the first row -/
def Runs (ok : List Int → Int → Bool) (m : Nat) (i0 : Nat) (g : List Int) : Prop := ∀ i, i0 ≤ i → i < g.length → ok (g.take i) (gt g i) = true ∧ 0 ≤ gt g i ∧ gt g i < (m : Int)
theorem first_sound {ok : List Int → Int → Bool} {m : Nat} : ∀ (k : Nat) (ts g : List Int), firstOn ok m k ts = some g → g.length = ts.length + k ∧ g.take ts.length = ts ∧ Runs ok m ts.length g
  | 0, ts, g, h => by cases h; exact ⟨rfl, List.take_length, fun i h1 h2 => by omega⟩
  | k + 1, ts, g, h => by
    obtain ⟨t, ht, h⟩ := List.exists_of_findSome?_eq_some h
    split at h
    · rename_i hok
      obtain ⟨h1, h2, h3⟩ := first_sound k _ g h
      rw [List.length_append, List.length_singleton] at h1 h2 h3
      have e1 : gt g ts.length = (t : Int) := by
        have := gt_take (g := g) (i := ts.length + 1) (j := ts.length) (by omega)
        rw [h2, gt_app] at this; exact this.symm
      have e2 : g.take ts.length = ts := by
        have := congrArg (List.take ts.length) h2
        rw [List.take_take, Nat.min_eq_left (by omega)] at this
        rw [this]; simp
      refine ⟨by omega, e2, fun i hi hl => ?_⟩
      by_cases c : i = ts.length
      · subst c
        rw [e1, e2]
        exact ⟨hok, by omega, by have := List.mem_range.mp ht; omega⟩
      · exact h3 i (by omega) hl
    · cases h
theorem first_complete {ok : List Int → Int → Bool} {m : Nat} : ∀ (k : Nat) (ts g : List Int), g.length = ts.length + k → g.take ts.length = ts → Runs ok m ts.length g → (firstOn ok m k ts).isSome = true
  | 0, ts, g, _, _, _ => rfl
  | k + 1, ts, g, h1, h2, h3 => by
    obtain ⟨h4, h5, h6⟩ := h3 ts.length (Nat.le_refl _) (by omega)
    rw [h2] at h4
    have e : gt g ts.length = ((gt g ts.length).toNat : Int) := by omega
    unfold firstOn
    rw [List.isSome_findSome?, List.any_eq_true]
    refine ⟨(gt g ts.length).toNat, List.mem_range.mpr (by omega), ?_⟩
    rw [← e, if_pos h4]
    refine first_complete k _ g (by rw [List.length_append, List.length_singleton]; omega) ?_ ?_
    · rw [List.length_append, List.length_singleton, take_succ_gt (by omega), h2]
    · rw [List.length_append, List.length_singleton]
      exact fun i hi => h3 i (by omega)
theorem near_mem {r : List (Nat × Nat)} {ts : List Int} {x : Int} : x ∈ nearOf r ts ↔ ∃ p ∈ r, p.2 = ts.length ∧ gt ts p.1 = x := by
  unfold nearOf
  rw [List.mem_map]
  constructor
  · rintro ⟨p, hp, e⟩
    obtain ⟨h1, h2⟩ := List.mem_filter.mp hp
    exact ⟨p, h1, by simpa using h2, e⟩
  · rintro ⟨p, h1, h2, e⟩
    exact ⟨p, List.mem_filter.mpr ⟨h1, by simpa using h2⟩, e⟩
/-- rows whose test asks a thing of each tie -/
theorem first_ties {n m k : Nat} {r : List (Nat × Nat)} {ok : List Int → Int → Bool} {T : Int → Int → Prop} (hr : ∀ p ∈ r, p.1 < p.2 ∧ p.2 < n)
    (hok : ∀ ts t, ok ts t = true ↔ ∀ p ∈ r, p.2 = ts.length → T (gt ts p.1) t) :
    (∀ g, firstOn ok m n [] = some g → g.length = n ∧ (∀ c ∈ g, 0 ≤ c ∧ c < (m : Int)) ∧ ∀ p ∈ r, T (gt g p.1) (gt g p.2)) ∧
    ((∃ g : List Int, g.length = n ∧ (∀ c ∈ g, 0 ≤ c ∧ c < (m : Int)) ∧ ∀ p ∈ r, T (gt g p.1) (gt g p.2)) → (firstOn ok m n []).isSome = true) := by
  constructor
  · intro g h
    obtain ⟨h1, h2, h3⟩ := first_sound n [] g h
    have hl : g.length = n := by simpa using h1
    refine ⟨hl, fun c hc => ?_, fun p hp => ?_⟩
    · obtain ⟨i, hi, rfl⟩ := mem_gt hc
      exact (h3 i (Nat.zero_le _) hi).2
    · have hp' := hr p hp
      have q := (h3 p.2 (Nat.zero_le _) (by omega)).1
      have := (hok _ _).mp q p hp (by rw [List.length_take]; omega)
      rw [gt_take hp'.1] at this
      exact this
  · rintro ⟨g, h1, h2, h3⟩
    refine first_complete n [] g (by simpa using h1) rfl fun i _ hi => ⟨(hok _ _).mpr fun p hp e => ?_, (h2 _ (gt_mem hi))⟩
    rw [List.length_take] at e
    have hp' := hr p hp
    have e2 : p.2 = i := by omega
    rw [gt_take (by omega)]
    have := h3 p hp
    rw [e2] at this
    exact this
def Tied (n : Nat) (r : List (Nat × Nat)) (m : Nat) (T : Int → Int → Prop) (g : List Int) : Prop := g.length = n ∧ (∀ c ∈ g, 0 ≤ c ∧ c < (m : Int)) ∧ ∀ p ∈ r, T (gt g p.1) (gt g p.2)
theorem colour_ok {r : List (Nat × Nat)} (ts : List Int) (t : Int) : colourOk r ts t = true ↔ ∀ p ∈ r, p.2 = ts.length → gt ts p.1 ≠ t := by
  unfold colourOk
  rw [Bool.not_eq_true', ← Bool.not_eq_true, List.contains_iff_mem, near_mem]
  constructor
  · exact fun h p hp e z => h ⟨p, hp, e, z⟩
  · rintro h ⟨p, hp, e, z⟩; exact h p hp e z
theorem colour_some {n m : Nat} {r : List (Nat × Nat)} (wo : WebOk n r) {cs : List Int} (h : colouringOf n r m = some cs) : Tied n r m (· ≠ ·) cs :=
  (first_ties (k := 0) (T := (· ≠ ·)) wo.lt colour_ok).1 cs h
theorem colour_ex {n m : Nat} {r : List (Nat × Nat)} (wo : WebOk n r) {cs : List Int} (h : Tied n r m (· ≠ ·) cs) : (colouringOf n r m).isSome = true :=
  (first_ties (k := 0) (T := (· ≠ ·)) wo.lt colour_ok).2 ⟨cs, h⟩
def Awy (h a : Int) (x y : Int) : Prop := a ≤ ab (y - x) ∧ ab (y - x) ≤ h - a
theorem times_ok {r : List (Nat × Nat)} {h a : Int} (ts : List Int) (t : Int) : timesOk r h a ts t = true ↔ ∀ p ∈ r, p.2 = ts.length → Awy h a (gt ts p.1) t := by
  unfold timesOk
  rw [List.all_eq_true]
  constructor
  · intro q p hp e
    have := q _ (near_mem.mpr ⟨p, hp, e, rfl⟩)
    unfold away at this
    rw [Bool.and_eq_true] at this
    exact ⟨of_decide_eq_true this.1, of_decide_eq_true this.2⟩
  · intro q x hx
    obtain ⟨p, hp, e, rfl⟩ := near_mem.mp hx
    have := q p hp e
    unfold away
    rw [Bool.and_eq_true]
    exact ⟨decide_eq_true this.1, decide_eq_true this.2⟩
theorem clock_some {n h a : Nat} {r : List (Nat × Nat)} (wo : WebOk n r) {ts : List Int} (q : clockOf n r h a = some ts) : Tied n r h (Awy h a) ts :=
  (first_ties (k := 0) (T := Awy h a) wo.lt times_ok).1 ts q
theorem clock_ex {n h a : Nat} {r : List (Nat × Nat)} (wo : WebOk n r) {ts : List Int} (q : Tied n r h (Awy h a) ts) : (clockOf n r h a).isSome = true :=
  (first_ties (k := 0) (T := Awy h a) wo.lt times_ok).2 ⟨ts, q⟩
theorem ab_sym (x y : Int) : ab (x - y) = ab (y - x) := by unfold ab; split <;> split <;> omega
theorem clk_fact {n : Nat} {r : List (Nat × Nat)} (wo : WebOk n r) {h a : Nat} {ts : List Int} (q : clockOf n r h a = some ts) : areTimes r h a ts = true ∧ ∀ t ∈ ts, 0 ≤ t ∧ t ≤ (h : Int) - 1 := by
  obtain ⟨h1, h2, h3⟩ := clock_some wo q
  refine ⟨?_, fun t ht => by have := h2 t ht; omega⟩
  unfold areTimes
  rw [List.all_eq_true]
  intro p hp
  have := h3 p hp
  unfold away
  rw [Bool.and_eq_true, ab_sym]
  exact ⟨decide_eq_true this.1, decide_eq_true this.2⟩
/-! ### arrows and signs -/
theorem arrows_mem {r : List (Nat × Nat)} {sg : List Int} (hl : sg.length = r.length) {q : Nat × Nat} : q ∈ arrowsOf r sg ↔ ∃ i p, r[i]? = some p ∧ q = (if gt sg i = 1 then p else (p.2, p.1)) := by
  unfold arrowsOf
  rw [List.mem_iff_getElem?]
  constructor
  · rintro ⟨i, hi⟩
    rw [List.getElem?_zipWith] at hi
    cases e1 : r[i]? with
    | none => rw [e1] at hi; cases hi
    | some p =>
      cases e2 : sg[i]? with
      | none => rw [e1, e2] at hi; cases hi
      | some s =>
        rw [e1, e2] at hi
        refine ⟨i, p, e1, ?_⟩
        have e3 : gt sg i = s := by unfold gt; rw [List.getD_eq_getElem?_getD, e2]; rfl
        rw [e3]; exact (Option.some.inj hi).symm
  · rintro ⟨i, p, e1, e⟩
    have hi : i < r.length := (List.getElem?_eq_some_iff.mp e1).1
    refine ⟨i, ?_⟩
    rw [List.getElem?_zipWith, e1, List.getElem?_eq_getElem (by omega : i < sg.length), e, gt_in (by omega)]
theorem heights_iff {n : Nat} {r : List (Nat × Nat)} {sg : List Int} (wo : WebOk n r) : (∃ h, heightsOf n r sg = some h) ↔ ∃ p : Nat → Int, ∀ q ∈ arrowsOf r sg, p q.1 + 1 ≤ p q.2 := by
  unfold heightsOf
  rw [bf_iff wo.pos (arcs1_in (arrows_lt wo.lt)) (Nat.le_refl _)]
  constructor
  · rintro ⟨p, hp⟩; exact ⟨p, fun q hq => hp (q.1, q.2, 1) (List.mem_map.mpr ⟨q, hq, rfl⟩)⟩
  · rintro ⟨p, hp⟩
    refine ⟨p, fun a ha => ?_⟩
    obtain ⟨q, hq, rfl⟩ := List.mem_map.mp ha
    exact hp q hq
theorem ringless_mem {n : Nat} {r : List (Nat × Nat)} {sg : List Int} : sg ∈ ringlessSigns n r ↔ SgOk r sg ∧ ∃ h, heightsOf n r sg = some h := by
  constructor
  · exact rl_of
  · rintro ⟨so, h, hh⟩
    exact List.mem_filter.mpr ⟨(allSigns_mem _ _).mpr ⟨so.len, so.pm⟩, by rw [hh]; rfl⟩
theorem signsBy_ok (r : List (Nat × Nat)) (cs : List Int) : SgOk r (signsBy r cs) := by
  refine ⟨by unfold signsBy; rw [List.length_map], fun s hs => ?_⟩
  obtain ⟨p, _, rfl⟩ := List.mem_map.mp hs
  split
  · exact .inl rfl
  · exact .inr rfl
theorem signsBy_gt {r : List (Nat × Nat)} {cs : List Int} {i : Nat} {p : Nat × Nat} (h : r[i]? = some p) : gt (signsBy r cs) i = if gt cs p.1 < gt cs p.2 then 1 else -1 := by
  unfold gt signsBy
  rw [List.getD_eq_getElem?_getD, List.getElem?_map, h]; rfl
/-- arrows go from lesser to greater colours -/
theorem signsBy_up {r : List (Nat × Nat)} {cs : List Int} (hp : ∀ p ∈ r, gt cs p.1 ≠ gt cs p.2) : ∀ q ∈ arrowsOf r (signsBy r cs), (q ∈ r ∨ (q.2, q.1) ∈ r) ∧ gt cs q.1 < gt cs q.2 := by
  intro q hq
  obtain ⟨i, p, e1, e⟩ := (arrows_mem (signsBy_ok r cs).len).mp hq
  have hm := List.mem_of_getElem? e1
  have := hp p hm
  rw [signsBy_gt e1] at e
  by_cases c : gt cs p.1 < gt cs p.2
  · rw [if_pos c, if_pos rfl] at e; subst e; exact ⟨.inl hm, c⟩
  · rw [if_neg c, if_neg (by decide)] at e; subst e; exact ⟨.inr hm, by show gt cs p.2 < gt cs p.1; omega⟩
theorem signsBy_ringless {n : Nat} {r : List (Nat × Nat)} (wo : WebOk n r) {cs : List Int} (hp : ∀ p ∈ r, gt cs p.1 ≠ gt cs p.2) : signsBy r cs ∈ ringlessSigns n r :=
  ringless_mem.mpr ⟨signsBy_ok r cs, (heights_iff wo).mpr ⟨gt cs, fun q hq => by have := (signsBy_up hp q hq).2; omega⟩⟩
theorem col_fact {n : Nat} {r : List (Nat × Nat)} (wo : WebOk n r) {sg h : List Int} (so : SgOk r sg) (hh : heightsOf n r sg = some h) : ColOk n r h ∧ signsBy r h = sg := by
  have H := hts_of wo hh
  have hn := wo.le
  have up : ∀ i p, r[i]? = some p → (gt sg i = 1 → gt h p.1 < gt h p.2) ∧ (gt sg i = -1 → gt h p.2 < gt h p.1) := fun i p e => by
    have m := (arrows_mem so.len).mpr ⟨i, p, e, rfl⟩
    constructor
    · intro e1; rw [if_pos e1] at m; have := H.up _ m; omega
    · intro e1; rw [if_neg (by omega)] at m; have := H.up _ m; dsimp only at this; omega
  have pm : ∀ i p, r[i]? = some p → gt sg i = 1 ∨ gt sg i = -1 := fun i p e => so.pm _ (gt_mem (by have := (List.getElem?_eq_some_iff.mp e).1; have := so.len; omega))
  refine ⟨⟨H.len, fun c hc => ?_, fun p hp => ?_⟩, ?_⟩
  · obtain ⟨i, hi, rfl⟩ := mem_gt hc
    have := H.nn i
    have := H.lt i (by have := H.len; omega)
    omega
  · obtain ⟨i, e⟩ := List.mem_iff_getElem?.mp hp
    have := up i p e
    rcases pm i p e with q | q
    · have := this.1 q; omega
    · have := this.2 q; omega
  · refine ext_gt (by rw [(signsBy_ok r h).len, so.len]) fun i => ?_
    by_cases hi : i < r.length
    · have e := List.getElem?_eq_getElem hi
      rw [signsBy_gt e]
      have := up i _ e
      rcases pm i _ e with q | q
      · rw [if_pos (this.1 q), q]
      · have := this.2 q; rw [if_neg (by omega), q]
    · rw [gt_out (by rw [(signsBy_ok r h).len]; omega), gt_out (by rw [so.len]; omega)]
/-! ### the least number of colours -/
theorem ident_tied {n : Nat} {r : List (Nat × Nat)} (wo : WebOk n r) : Tied n r n (· ≠ ·) ((List.range n).map fun (i : Nat) => (i : Int)) := by
  have e : ∀ i, i < n → gt ((List.range n).map fun (i : Nat) => (i : Int)) i = (i : Int) := fun i hi => by
    unfold gt
    rw [List.getD_eq_getElem?_getD, List.getElem?_map, List.getElem?_range hi]; rfl
  refine ⟨by simp, fun c hc => ?_, fun p hp => ?_⟩
  · obtain ⟨i, hi, rfl⟩ := List.mem_map.mp hc
    have := List.mem_range.mp hi; omega
  · have := wo.lt p hp
    show gt _ p.1 ≠ gt _ p.2
    rw [e _ (by omega), e _ (by omega)]; omega
theorem least_mem {n m : Nat} {r : List (Nat × Nat)} : m ∈ leastOf n r ↔ 1 ≤ m ∧ m ≤ n ∧ (colouringOf n r m).isSome = true := by
  unfold leastOf
  rw [List.mem_filter, List.mem_map]
  constructor
  · rintro ⟨⟨i, hi, rfl⟩, h⟩; have := List.mem_range.mp hi; exact ⟨by omega, by omega, h⟩
  · rintro ⟨h1, h2, h3⟩; exact ⟨⟨m - 1, List.mem_range.mpr (by omega), by omega⟩, h3⟩
theorem least_head {n m : Nat} {t : List Nat} {r : List (Nat × Nat)} (h : leastOf n r = m :: t) : ∀ k ∈ leastOf n r, m ≤ k := by
  have pw : (leastOf n r).Pairwise (· < ·) := by
    unfold leastOf
    refine List.Pairwise.filter _ ?_
    rw [List.pairwise_map]
    exact List.pairwise_lt_range.imp fun h => by omega
  rw [h] at pw ⊢
  intro k hk
  rcases List.mem_cons.mp hk with rfl | hk
  · exact Nat.le_refl _
  · have := (List.pairwise_cons.mp pw).1 k hk; omega
structure Lst (n : Nat) (r : List (Nat × Nat)) (m : Nat) (t : List Nat) (cs : List Int) : Prop where
  e : leastOf n r = m :: t
  lo : 1 ≤ m
  hi : m ≤ 6
  c : colouringOf n r m = some cs
  co : ColOk n r cs
  lt : ∀ c ∈ cs, c < (m : Int)
  no : 1 < m → colouringOf n r (m - 1) = none
  at' : ∃ sg ∈ ringlessSigns n r, ∃ h, heightsOf n r sg = some h ∧ 1 + topOf h = m
  mn : ∀ sg ∈ ringlessSigns n r, ∀ h, heightsOf n r sg = some h → (m : Int) ≤ 1 + topOf h
theorem lst_of {n : Nat} {r : List (Nat × Nat)} (wo : WebOk n r) : ∃ m t cs, Lst n r m t cs := by
  have hn := wo.le
  have hpos := wo.pos
  have hne : leastOf n r ≠ [] := fun z => by
    have : n ∈ leastOf n r := least_mem.mpr ⟨wo.pos, Nat.le_refl _, colour_ex wo (ident_tied wo)⟩
    rw [z] at this; cases this
  obtain ⟨m, t, e⟩ := List.exists_cons_of_ne_nil hne
  have hm : m ∈ leastOf n r := by rw [e]; exact List.mem_cons_self
  have mn0 := least_head e
  obtain ⟨h1, h2, h3⟩ := least_mem.mp hm
  obtain ⟨cs, hc⟩ := Option.isSome_iff_exists.mp h3
  obtain ⟨c1, c2, c3⟩ := colour_some wo hc
  have mn : ∀ sg ∈ ringlessSigns n r, ∀ h, heightsOf n r sg = some h → (m : Int) ≤ 1 + topOf h := fun sg hs h hh => by
    obtain ⟨so, _⟩ := ringless_mem.mp hs
    have H := hts_of wo hh
    have co := (col_fact wo so hh).1
    have hne' : h ≠ [] := fun z => by have := H.len; rw [z] at this; simp at this; omega
    have tm := topOf_mem hne'
    obtain ⟨i, hi, et⟩ := mem_gt tm
    have t1 := H.nn i
    have t2 := H.lt i (by have := H.len; omega)
    have ek : ((1 + topOf h).toNat : Int) = 1 + topOf h := by omega
    have : (1 + topOf h).toNat ∈ leastOf n r := least_mem.mpr ⟨by omega, by omega, colour_ex wo ⟨H.len, fun c hc => ⟨(co.rng c hc).1, by have := topOf_le c hc; omega⟩, co.prop⟩⟩
    have := mn0 _ this
    omega
  refine ⟨m, t, cs, e, h1, by omega, hc, ⟨c1, fun c hc => by have := c2 c hc; omega, c3⟩, fun c hc => (c2 c hc).2, fun q => ?_, ?_, mn⟩
  · cases z : colouringOf n r (m - 1) with
    | none => rfl
    | some g =>
      have := mn0 _ (least_mem.mpr ⟨by omega, by omega, by rw [z]; rfl⟩ : m - 1 ∈ leastOf n r)
      omega
  · have hs := signsBy_ringless wo c3
    obtain ⟨so, h, hh⟩ := ringless_mem.mp hs
    have H := hts_of wo hh
    refine ⟨_, hs, h, hh, ?_⟩
    have hne' : h ≠ [] := fun z => by have := H.len; rw [z] at this; simp at this; omega
    obtain ⟨i, hi, et⟩ := mem_gt (topOf_mem hne')
    have hi' : i < n := by have := H.len; omega
    have le := bf_le (p := gt cs) n _ (zeros n) h (by rw [zeros_len]; exact arcs1_in (arrows_lt wo.lt)) (fun a ha => by
      obtain ⟨q, hq, rfl⟩ := List.mem_map.mp ha
      have := (signsBy_up c3 q hq).2
      show gt cs q.1 + 1 ≤ gt cs q.2
      omega) (fun i hi => by
      rw [zeros_len] at hi
      rw [gt_zeros]; exact (c2 _ (gt_mem (by omega))).1) hh i (by rw [zeros_len]; exact hi')
    have := (c2 _ (gt_mem (by omega : i < cs.length))).2
    have := mn _ hs h hh
    omega
theorem ringless_ne {n : Nat} {r : List (Nat × Nat)} (wo : WebOk n r) : ringlessSigns n r ≠ [] := by
  obtain ⟨m, t, cs, L⟩ := lst_of wo
  obtain ⟨sg, h, _⟩ := L.at'
  exact fun z => by rw [z] at h; cases h
end TS
namespace TS
/-! ### values of powers -/
def ff (x : Int) : Nat → Int
  | 0 => 1
  | k + 1 => ff x k * (x - k)
theorem val_nil (x : Int) : valueAt [] x = 0 := rfl
theorem val_cons (c : Int) (ps : List Int) (x : Int) : valueAt (c :: ps) x = valueAt ps x * x + c := by
  unfold valueAt
  rw [List.reverse_cons, List.foldl_append]; rfl
theorem val_app0 (ps : List Int) (x : Int) : valueAt (ps ++ [0]) x = valueAt ps x := by
  induction ps with
  | nil => rw [List.nil_append, val_cons, val_nil]; simp
  | cons c ps ih => rw [List.cons_append, val_cons, val_cons, ih]
theorem val_zeros (n : Nat) (x : Int) : valueAt (List.replicate n 0) x = 0 := by
  induction n with
  | zero => rfl
  | succ n ih => rw [List.replicate_succ, val_cons, ih]; simp
theorem val_less (k x : Int) : ∀ (a b : List Int), a.length = b.length → valueAt (List.zipWith (fun a b => a - k * b) a b) x = valueAt a x - k * valueAt b x
  | [], [], _ => by simp [val_nil]
  | a :: as, b :: bs, h => by
    rw [List.zipWith_cons_cons, val_cons, val_cons, val_cons, val_less k x as bs (by simpa using h)]
    grind
  | [], _ :: _, h => by simp at h
  | _ :: _, [], h => by simp at h
theorem val_timesLess (ps : List Int) (k x : Int) : valueAt (timesLess ps k) x = valueAt ps x * (x - k) := by
  unfold timesLess
  rw [val_less k x _ _ (by simp), val_cons, val_app0]
  grind
theorem val_set (x d : Int) : ∀ (f : List Int) (i : Nat), i < f.length → valueAt (f.set i (gt f i + d)) x = valueAt f x + d * x ^ i
  | [], i, h => by simp at h
  | c :: f, 0, h => by
    show valueAt ((c + d) :: f) x = _
    rw [val_cons, val_cons, Int.pow_zero]; omega
  | c :: f, i + 1, h => by
    have e : gt (c :: f) (i + 1) = gt f i := by unfold gt; simp [List.getD_eq_getElem?_getD]
    rw [e, List.set_cons_succ, val_cons, val_cons, val_set x d f i (by simpa using h), Int.pow_succ]
    grind
theorem addAt_go (x ways : Int) : ∀ (g : List Int) (i : Nat) (f : List Int), i + g.length ≤ f.length →
    valueAt ((g.zipIdx i).foldl (fun f q => f.set q.2 (gt f q.2 + ways * q.1)) f) x = valueAt f x + ways * x ^ i * valueAt g x ∧ ((g.zipIdx i).foldl (fun f q => f.set q.2 (gt f q.2 + ways * q.1)) f).length = f.length
  | [], i, f, _ => by simp [val_nil]
  | c :: g, i, f, h => by
    rw [List.zipIdx_cons, List.foldl_cons]
    rw [List.length_cons] at h
    obtain ⟨h1, h2⟩ := addAt_go x ways g (i + 1) (f.set i (gt f i + ways * c)) (by rw [List.length_set]; omega)
    rw [h1, h2]
    refine ⟨?_, by rw [List.length_set]⟩
    rw [val_set x _ f i (by omega), val_cons, Int.pow_succ]
    grind
def wsum (x : Int) : Nat → List Int → Int
  | _, [] => 0
  | k, c :: L => c * ff x k + wsum x (k + 1) L
theorem pow_go {n : Nat} (x : Int) : ∀ (L : List Int) (k : Nat) (f g : List Int), f.length = n + 1 → g.length = k + 1 → k + L.length ≤ n + 1 → valueAt g x = ff x k →
    valueAt ((L.zipIdx k).foldl powStep (f, g)).1 x = valueAt f x + wsum x k L
  | [], k, f, g, _, _, _, _ => by simp [wsum]
  | c :: L, k, f, g, h1, h2, h3, h4 => by
    rw [List.zipIdx_cons, List.foldl_cons]
    rw [List.length_cons] at h3
    obtain ⟨a1, a2⟩ := addAt_go x c g 0 f (by omega)
    have e : valueAt (addAt f c g) x = valueAt f x + c * ff x k := by
      unfold addAt
      rw [a1, h4]; simp
    show valueAt ((L.zipIdx (k + 1)).foldl powStep (addAt f c g, timesLess g k)).1 x = _
    rw [pow_go x L (k + 1) _ _ (by unfold addAt; rw [a2, h1]) (by unfold timesLess; simp [h2]) (by omega) (by rw [val_timesLess, h4]; rfl), e]
    show _ = valueAt f x + (c * ff x k + wsum x (k + 1) L)
    omega
theorem zadd_length (a b : List Int) : (zadd a b).length = min a.length b.length := by unfold zadd; rw [List.length_zipWith]
theorem lots_length {n : Nat} {r : List (Nat × Nat)} : ∀ (k : Nat) (lots : List (List Nat)), (lotsOn n r k lots).length = n + 1
  | 0, lots => by unfold lotsOn; simp
  | k + 1, lots => by
    unfold lotsOn
    have : ∀ (l : List Nat) (f : List Int), f.length = n + 1 → (l.foldl (fun found i => if (nearP r (n - (k + 1))).any (fun q => decide (q ∈ lots.getD i [])) = true then found
      else zadd found (lotsOn n r k (lots.set i (lots.getD i [] ++ [n - (k + 1)])))) f).length = n + 1 := fun l => by
      induction l with
      | nil => exact fun f h => h
      | cons i l ih =>
        intro f h
        rw [List.foldl_cons]
        refine ih _ ?_
        split
        · exact h
        · rw [zadd_length, h, lots_length k]; omega
    rw [zadd_length, this _ _ List.length_replicate, lots_length k]; omega
theorem powers_val {n : Nat} (r : List (Nat × Nat)) (x : Int) : valueAt (powersOf n r) x = wsum x 0 (lotsOn n r n []) := by
  unfold powersOf
  rw [pow_go (n := n) x _ 0 _ _ List.length_replicate rfl (by rw [lots_length]; omega) (by rw [val_cons, val_nil]; simp [ff]), val_zeros]
  omega
/-! ### sums over rows of lots -/
theorem sumTo_congr {f g : Nat → Int} : ∀ n, (∀ i, i < n → f i = g i) → sumTo f n = sumTo g n
  | 0, _ => rfl
  | n + 1, h => by unfold sumTo; rw [sumTo_congr n fun i hi => h i (by omega), h n (by omega)]
theorem sumTo_sub (f g : Nat → Int) : ∀ n, sumTo (fun i => f i - g i) n = sumTo f n - sumTo g n
  | 0 => rfl
  | n + 1 => by unfold sumTo; rw [sumTo_sub f g n]; omega
theorem sumTo_zero {f : Nat → Int} (n : Nat) (h : ∀ i, i < n → f i = 0) : sumTo f n = 0 := by
  rw [sumTo_congr (g := fun _ => 0) n h]
  induction n with
  | zero => rfl
  | succ n ih => unfold sumTo; rw [ih fun i hi => h i (by omega)]; rfl
theorem sumTo_const (c : Int) : ∀ n : Nat, sumTo (fun _ => c) n = n * c
  | 0 => by simp [sumTo]
  | n + 1 => by unfold sumTo; rw [sumTo_const c n]; grind
theorem sumTo_one {f : Nat → Int} (n j : Nat) (hj : j < n) (h : ∀ i, i < n → i ≠ j → f i = 0) : sumTo f n = f j := by
  induction n with
  | zero => omega
  | succ n ih =>
    unfold sumTo
    by_cases e : j = n
    · subst e; rw [sumTo_zero _ fun i hi => h i (by omega) (by omega)]; omega
    · rw [ih (by omega) fun i hi => h i (by omega), h n (by omega) (by omega)]; omega
def RS (w : List Nat → Int) (x : Int) : Nat → List Nat → Nat → Int
  | 0, pre, t => w pre * ff x t
  | k + 1, pre, t => sumTo (fun i => RS w x k (pre ++ [i]) t) t + RS w x k (pre ++ [t]) (t + 1)
theorem RS_sub {w w1 w2 : List Nat → Int} {x : Int} (h : ∀ c, w c = w1 c - w2 c) : ∀ (k : Nat) (pre : List Nat) (t : Nat), RS w x k pre t = RS w1 x k pre t - RS w2 x k pre t
  | 0, pre, t => by unfold RS; rw [h]; grind
  | k + 1, pre, t => by
    unfold RS
    rw [sumTo_congr t fun i _ => RS_sub h k (pre ++ [i]) t, sumTo_sub, RS_sub h k]; omega
theorem RS_congr {w w1 : List Nat → Int} {x : Int} (h : ∀ c, w c = w1 c) (k : Nat) (pre : List Nat) (t : Nat) : RS w x k pre t = RS w1 x k pre t := by
  rw [show w = w1 from funext h]
/-- a prefix that cannot be mended -/
theorem RS_bad {w : List Nat → Int} {x : Int} : ∀ (k : Nat) (pre : List Nat) (t : Nat), (∀ s, w (pre ++ s) = 0) → RS w x k pre t = 0
  | 0, pre, t, h => by have := h []; rw [List.append_nil] at this; unfold RS; rw [this]; simp
  | k + 1, pre, t, h => by
    unfold RS
    rw [sumTo_zero t fun i _ => RS_bad k (pre ++ [i]) t fun s => by rw [List.append_assoc]; exact h _, RS_bad k (pre ++ [t]) _ fun s => by rw [List.append_assoc]; exact h _]; rfl
theorem wsum_zadd (x : Int) : ∀ (k : Nat) (a b : List Int), a.length = b.length → wsum x k (zadd a b) = wsum x k a + wsum x k b
  | k, [], [], _ => by simp [zadd, wsum]
  | k, a :: as, b :: bs, h => by
    have := wsum_zadd x (k + 1) as bs (by simpa using h)
    unfold zadd at this ⊢
    rw [List.zipWith_cons_cons]
    unfold wsum
    rw [this]; grind
  | _, [], _ :: _, h => by simp at h
  | _, _ :: _, [], h => by simp at h
theorem wsum_zeros (x : Int) : ∀ (n k : Nat), wsum x k (List.replicate n 0) = 0
  | 0, k => rfl
  | n + 1, k => by rw [List.replicate_succ]; unfold wsum; rw [wsum_zeros x n]; simp
theorem wsum_unit (x : Int) (l : Nat) : ∀ (n k : Nat), wsum x k ((List.range' k n).map fun m => if m = l then (1 : Int) else 0) = if k ≤ l ∧ l < k + n then ff x l else 0
  | 0, k => by rw [if_neg (by omega)]; rfl
  | n + 1, k => by
    rw [List.range'_succ, List.map_cons]
    unfold wsum
    rw [wsum_unit x l n (k + 1)]
    by_cases c : k = l
    · subst c; rw [if_pos rfl, if_neg (by omega), if_pos (by omega)]; simp
    · rw [if_neg c]
      by_cases c2 : k + 1 ≤ l ∧ l < k + 1 + n
      · rw [if_pos c2, if_pos (by omega)]; simp
      · rw [if_neg c2, if_neg (by omega)]; simp
def gn (c : List Nat) (i : Nat) : Nat := c.getD i 0
theorem gn_l {a b : List Nat} {i : Nat} (h : i < a.length) : gn (a ++ b) i = gn a i := by
  unfold gn
  rw [List.getD_eq_getElem?_getD, List.getD_eq_getElem?_getD, List.getElem?_append_left h]
theorem gn_r {a b : List Nat} {x : Nat} : gn (a ++ x :: b) a.length = x := by
  unfold gn
  rw [List.getD_eq_getElem?_getD, List.getElem?_append_right (Nat.le_refl _)]; simp
theorem gn_r1 {a : List Nat} {x : Nat} : gn (a ++ [x]) a.length = x := gn_r
theorem gn_mem {a : List Nat} {i : Nat} (h : i < a.length) : gn a i ∈ a := by
  unfold gn
  rw [List.getD_eq_getElem?_getD, List.getElem?_eq_getElem h]; exact List.getElem_mem h
/-- the ties' places differ -/
def wR (r : List (Nat × Nat)) (c : List Nat) : Int := if ∀ p ∈ r, gn c p.1 ≠ gn c p.2 then 1 else 0
structure Vd (r : List (Nat × Nat)) (lots : List (List Nat)) (pre : List Nat) : Prop where
  mem : ∀ i, i < lots.length → ∀ q, q ∈ lots.getD i [] ↔ q < pre.length ∧ gn pre q = i
  lt : ∀ q, q < pre.length → gn pre q < lots.length
  pr : ∀ p ∈ r, p.2 < pre.length → gn pre p.1 ≠ gn pre p.2
theorem nearP_mem {r : List (Nat × Nat)} {p q : Nat} : q ∈ nearP r p ↔ (q, p) ∈ r := by
  unfold nearP
  rw [List.mem_map]
  constructor
  · rintro ⟨⟨a, b⟩, h, rfl⟩
    obtain ⟨h1, h2⟩ := List.mem_filter.mp h
    simp at h2; subst h2; exact h1
  · exact fun h => ⟨_, List.mem_filter.mpr ⟨h, by simp⟩, rfl⟩
theorem lots_RS {n : Nat} {r : List (Nat × Nat)} (x : Int) (hr : ∀ p ∈ r, p.1 < p.2 ∧ p.2 < n) : ∀ (k : Nat) (lots : List (List Nat)) (pre : List Nat), pre.length + k = n → lots.length ≤ pre.length → Vd r lots pre →
    wsum x 0 (lotsOn n r k lots) = RS (wR r) x k pre lots.length
  | 0, lots, pre, h1, h2, V => by
    have e : wR r pre = 1 := if_pos fun p hp => V.pr p hp (by have := hr p hp; omega)
    unfold lotsOn RS
    rw [List.range_eq_range', wsum_unit, if_pos (by omega), e]; omega
  | k + 1, lots, pre, h1, h2, V => by
    have ep : n - (k + 1) = pre.length := by omega
    unfold lotsOn RS
    rw [ep]
    have new : Vd r (lots ++ [[pre.length]]) (pre ++ [lots.length]) := by
      refine ⟨fun i hi q => ?_, fun q hq => ?_, fun p hp hq => ?_⟩
      · rw [List.length_append, List.length_singleton] at hi
        rw [List.length_append, List.length_singleton]
        by_cases c : i = lots.length
        · subst c
          rw [List.getD_eq_getElem?_getD, List.getElem?_concat_length]
          show q ∈ [pre.length] ↔ _
          rw [List.mem_singleton]
          constructor
          · rintro rfl; exact ⟨by omega, gn_r1⟩
          · rintro ⟨a, b⟩
            refine Classical.byContradiction fun z => ?_
            rw [gn_l (by omega)] at b
            have := V.lt q (by omega); omega
        · have e : (lots ++ [[pre.length]]).getD i [] = lots.getD i [] := by
            rw [List.getD_eq_getElem?_getD, List.getD_eq_getElem?_getD, List.getElem?_append_left (by omega)]
          rw [e, V.mem i (by omega) q]
          constructor
          · rintro ⟨a, b⟩; exact ⟨by omega, by rw [gn_l a]; exact b⟩
          · rintro ⟨a, b⟩
            by_cases c2 : q = pre.length
            · subst c2; rw [gn_r1] at b; omega
            · rw [gn_l (by omega)] at b; exact ⟨by omega, b⟩
      · rw [List.length_append, List.length_singleton] at hq ⊢
        by_cases c2 : q = pre.length
        · subst c2; rw [gn_r1]; omega
        · rw [gn_l (by omega)]; have := V.lt q (by omega); omega
      · rw [List.length_append, List.length_singleton] at hq
        have h3 := hr p hp
        by_cases c2 : p.2 = pre.length
        · rw [c2, gn_r1, gn_l (by omega)]; have := V.lt p.1 (by omega); omega
        · rw [gn_l (by omega), gn_l (by omega)]; exact V.pr p hp (by omega)
    have go : ∀ j, j ≤ lots.length → wsum x 0 ((List.range j).foldl (fun found i => if (nearP r pre.length).any (fun q => decide (q ∈ lots.getD i [])) = true then found
        else zadd found (lotsOn n r k (lots.set i (lots.getD i [] ++ [pre.length])))) (List.replicate (n + 1) 0)) = sumTo (fun i => RS (wR r) x k (pre ++ [i]) lots.length) j ∧ ((List.range j).foldl (fun found i => if (nearP r pre.length).any (fun q => decide (q ∈ lots.getD i [])) = true then found
        else zadd found (lotsOn n r k (lots.set i (lots.getD i [] ++ [pre.length])))) (List.replicate (n + 1) 0)).length = n + 1 := fun j => by
      induction j with
      | zero => exact fun _ => ⟨wsum_zeros _ _ _, List.length_replicate⟩
      | succ j ih =>
        intro hj
        obtain ⟨i1, i2⟩ := ih (by omega)
        rw [List.range_succ, List.foldl_append]
        show wsum x 0 (if (nearP r pre.length).any (fun q => decide (q ∈ lots.getD j [])) = true then _ else _) = sumTo _ j + _ ∧ _
        rw [← i1]
        generalize hF : (List.range j).foldl _ (List.replicate (n + 1) (0 : Int)) = F at i1 i2
        rw [List.foldl_cons, List.foldl_nil]
        by_cases c : (nearP r pre.length).any (fun q => decide (q ∈ lots.getD j [])) = true
        · rw [if_pos c]
          refine ⟨?_, i2⟩
          obtain ⟨q, hq, hm⟩ := List.any_eq_true.mp c
          have hq := nearP_mem.mp hq
          obtain ⟨a, b⟩ := (V.mem j (by omega) q).mp (of_decide_eq_true hm)
          have bad : RS (wR r) x k (pre ++ [j]) lots.length = 0 := RS_bad k (pre ++ [j]) _ fun s => if_neg fun z => by
            refine z _ hq ?_
            show gn (pre ++ [j] ++ s) q = gn (pre ++ [j] ++ s) pre.length
            rw [List.append_assoc, gn_l a, b]
            show j = gn (pre ++ j :: s) pre.length
            rw [gn_r]
          show _ = _ + RS (wR r) x k (pre ++ [j]) lots.length
          rw [bad]; omega
        · rw [if_neg c]
          have lx := lots_length (n := n) (r := r) k (lots.set j (lots.getD j [] ++ [pre.length]))
          refine ⟨?_, by rw [zadd_length, i2, lx]; omega⟩
          rw [wsum_zadd x 0 _ _ (by rw [i2, lx])]
          have := lots_RS x hr k (lots.set j (lots.getD j [] ++ [pre.length])) (pre ++ [j]) (by rw [List.length_append, List.length_singleton]; omega) (by rw [List.length_append, List.length_set, List.length_singleton]; omega) ?_
          · rw [this, List.length_set]
          · refine ⟨fun i hi q => ?_, fun q hq => ?_, fun p hp hq => ?_⟩
            · rw [List.length_set] at hi
              rw [List.length_append, List.length_singleton]
              by_cases ci : j = i
              · subst ci
                rw [List.getD_eq_getElem?_getD, List.getElem?_set_self hi]
                show q ∈ lots.getD j [] ++ [pre.length] ↔ _
                rw [List.mem_append, List.mem_singleton, V.mem j hi q]
                constructor
                · rintro (⟨a, b⟩ | rfl)
                  · exact ⟨by omega, by rw [gn_l a]; exact b⟩
                  · exact ⟨by omega, gn_r1⟩
                · rintro ⟨a, b⟩
                  by_cases c2 : q = pre.length
                  · exact .inr c2
                  · rw [gn_l (by omega)] at b; exact .inl ⟨by omega, b⟩
              · rw [List.getD_eq_getElem?_getD, List.getElem?_set_ne ci, ← List.getD_eq_getElem?_getD, V.mem i hi q]
                constructor
                · rintro ⟨a, b⟩; exact ⟨by omega, by rw [gn_l a]; exact b⟩
                · rintro ⟨a, b⟩
                  by_cases c2 : q = pre.length
                  · subst c2; rw [gn_r1] at b; exact absurd b ci
                  · rw [gn_l (by omega)] at b; exact ⟨by omega, b⟩
            · rw [List.length_append, List.length_singleton] at hq
              rw [List.length_set]
              by_cases c2 : q = pre.length
              · subst c2; rw [gn_r1]; omega
              · rw [gn_l (by omega)]; exact V.lt q (by omega)
            · rw [List.length_append, List.length_singleton] at hq
              have h3 := hr p hp
              by_cases c2 : p.2 = pre.length
              · rw [c2, gn_r1, gn_l (by omega)]
                intro e
                refine c (List.any_eq_true.mpr ⟨p.1, nearP_mem.mpr (by rw [← c2]; exact hp), decide_eq_true ((V.mem j (by omega) _).mpr ⟨by omega, e⟩)⟩)
              · rw [gn_l (by omega), gn_l (by omega)]; exact V.pr p hp (by omega)
    obtain ⟨g1, g2⟩ := go lots.length (Nat.le_refl _)
    rw [wsum_zadd x 0 _ _ (by rw [g2, lots_length]), g1, lots_RS x hr k (lots ++ [[pre.length]]) (pre ++ [lots.length]) (by rw [List.length_append, List.length_singleton]; omega) (by rw [List.length_append, List.length_append, List.length_singleton, List.length_singleton]; omega) new, List.length_append, List.length_singleton]
theorem value_RS {n : Nat} {r : List (Nat × Nat)} (x : Int) (hr : ∀ p ∈ r, p.1 < p.2 ∧ p.2 < n) : valueAt (powersOf n r) x = RS (wR r) x n [] 0 := by
  rw [powers_val]
  exact lots_RS x hr n [] [] (by simp) (Nat.le_refl _) ⟨fun i hi => by simp at hi, fun q hq => by simp at hq, fun p _ hq => by simp at hq⟩
/-! ### at a number of colours -/
theorem ff_zero (m : Nat) : ∀ t, m < t → ff m t = 0
  | 0, h => by omega
  | t + 1, h => by
    unfold ff
    by_cases e : m = t
    · subst e; simp
    · rw [ff_zero m t (by omega)]; simp
theorem ff_pos (m : Nat) : ∀ t, t ≤ m → 1 ≤ ff m t
  | 0, _ => by simp [ff]
  | t + 1, h => by
    unfold ff
    have h1 := ff_pos m t (by omega)
    have h2 : (1 : Int) ≤ (m : Int) - t := by omega
    have := Int.mul_le_mul h1 h2 (by decide) (by omega)
    omega
theorem ff_nn (m t : Nat) : 0 ≤ ff m t := by
  by_cases h : t ≤ m
  · have := ff_pos m t h; omega
  · rw [ff_zero m t (by omega)]; omega
theorem RS_none {w : List Nat → Int} {m : Nat} : ∀ (k : Nat) (pre : List Nat) (t : Nat), (∀ v ∈ pre, v < t) → (∀ c : List Nat, c.length = pre.length + k → (∀ v ∈ c, v < m) → w c = 0) → RS w m k pre t = 0
  | 0, pre, t, h1, h2 => by
    unfold RS
    by_cases c : t ≤ m
    · rw [h2 pre rfl fun v hv => by have := h1 v hv; omega]; simp
    · rw [ff_zero m t (by omega)]; simp
  | k + 1, pre, t, h1, h2 => by
    unfold RS
    rw [sumTo_zero t fun i hi => RS_none k (pre ++ [i]) t (fun v hv => ?_) fun c hc => h2 c (by rw [List.length_append, List.length_singleton] at hc; omega), RS_none k (pre ++ [t]) (t + 1) (fun v hv => ?_) fun c hc => h2 c (by rw [List.length_append, List.length_singleton] at hc; omega)]
    · rfl
    · rcases List.mem_append.mp hv with hv | hv
      · have := h1 v hv; omega
      · rw [List.mem_singleton.mp hv]; omega
    · rcases List.mem_append.mp hv with hv | hv
      · exact h1 v hv
      · rw [List.mem_singleton.mp hv]; exact hi
theorem RS_nn {w : List Nat → Int} {m : Nat} (hw : ∀ c, 0 ≤ w c) : ∀ (k : Nat) (pre : List Nat) (t : Nat), 0 ≤ RS w m k pre t
  | 0, pre, t => Int.mul_nonneg (hw _) (ff_nn _ _)
  | k + 1, pre, t => by
    unfold RS
    have := sumTo_nonneg (p := fun i => RS w m k (pre ++ [i]) t) t fun i _ => RS_nn hw k (pre ++ [i]) t
    have := RS_nn (m := m) hw k (pre ++ [t]) (t + 1)
    omega
theorem wR_nn (r : List (Nat × Nat)) (c : List Nat) : 0 ≤ wR r c := by unfold wR; split <;> decide
theorem sumTo_ge {f : Nat → Int} (n j : Nat) (hj : j < n) (h : ∀ i, i < n → 0 ≤ f i) : f j ≤ sumTo f n := by
  induction n with
  | zero => omega
  | succ n ih =>
    unfold sumTo
    have := h n (by omega)
    by_cases e : j = n
    · subst e; have := sumTo_nonneg (p := f) j fun i hi => h i (by omega); omega
    · have := ih (by omega) fun i hi => h i (by omega); omega
theorem RS_some {n : Nat} {r : List (Nat × Nat)} {m : Nat} (hr : ∀ p ∈ r, p.1 < n ∧ p.2 < n) {c : List Nat} (hc : ∀ p ∈ r, gn c p.1 ≠ gn c p.2) (hlt : ∀ v ∈ c, v < m) (hcl : c.length = n) :
    ∀ (k : Nat) (pre cols : List Nat), pre.length + k = n → cols.Nodup → (∀ v ∈ cols, v < m) → (∀ q, q < pre.length → gn pre q < cols.length ∧ gn c q = gn cols (gn pre q)) → 1 ≤ RS (wR r) m k pre cols.length
  | 0, pre, cols, h1, h2, h3, h4 => by
    have e : wR r pre = 1 := if_pos fun p hp z => by
      have := hr p hp
      refine hc p hp ?_
      rw [(h4 p.1 (by omega)).2, (h4 p.2 (by omega)).2, z]
    have := nodup_le m cols h2 h3
    have := ff_pos m cols.length this
    unfold RS
    rw [e]; omega
  | k + 1, pre, cols, h1, h2, h3, h4 => by
    unfold RS
    have nn : ∀ i, i < cols.length → 0 ≤ RS (wR r) m k (pre ++ [i]) cols.length := fun i _ => RS_nn (wR_nn r) k _ _
    have nn2 := RS_nn (wR_nn r) (m := m) k (pre ++ [cols.length]) (cols.length + 1)
    have hp : pre.length < c.length := by omega
    by_cases hm : gn c pre.length ∈ cols
    · obtain ⟨i, hi, e⟩ := List.mem_iff_getElem.mp hm
      have := RS_some hr hc hlt hcl k (pre ++ [i]) cols (by rw [List.length_append, List.length_singleton]; omega) h2 h3 fun q hq => by
        rw [List.length_append, List.length_singleton] at hq
        by_cases z : q = pre.length
        · subst z
          rw [gn_r1]
          refine ⟨hi, ?_⟩
          rw [← e]; unfold gn; rw [List.getD_eq_getElem?_getD, List.getElem?_eq_getElem hi]; rfl
        · rw [gn_l (by omega)]; exact h4 q (by omega)
      have := sumTo_ge (f := fun i => RS (wR r) m k (pre ++ [i]) cols.length) cols.length i hi nn
      omega
    · have := RS_some hr hc hlt hcl k (pre ++ [cols.length]) (cols ++ [gn c pre.length]) (by rw [List.length_append, List.length_singleton]; omega) (by
        rw [List.nodup_append]
        exact ⟨h2, by simp, fun a ha b hb e => by rw [List.mem_singleton] at hb; subst hb; subst e; exact hm ha⟩) (fun v hv => by
        rcases List.mem_append.mp hv with hv | hv
        · exact h3 v hv
        · rw [List.mem_singleton.mp hv]; exact hlt _ (gn_mem hp)) fun q hq => by
        rw [List.length_append, List.length_singleton] at hq
        rw [List.length_append, List.length_singleton]
        by_cases z : q = pre.length
        · subst z
          rw [gn_r1, gn_r1]
          exact ⟨by omega, rfl⟩
        · have := h4 q (by omega)
          rw [gn_l (by omega), gn_l this.1]; exact ⟨by omega, this.2⟩
      rw [List.length_append, List.length_singleton] at this
      have := sumTo_nonneg (p := fun i => RS (wR r) m k (pre ++ [i]) cols.length) cols.length nn
      omega
theorem gt_nat {c : List Nat} {i : Nat} : gt (c.map fun (v : Nat) => (v : Int)) i = (gn c i : Int) := by
  unfold gt gn
  rw [List.getD_eq_getElem?_getD, List.getD_eq_getElem?_getD, List.getElem?_map]
  cases c[i]? <;> rfl
theorem val_none {n m : Nat} {r : List (Nat × Nat)} (wo : WebOk n r) (h : colouringOf n r m = none) : valueAt (powersOf n r) m = 0 := by
  rw [value_RS _ wo.lt]
  refine RS_none n [] 0 (by simp) fun c hl hc => if_neg fun z => ?_
  have := colour_ex (m := m) wo (cs := c.map fun (v : Nat) => (v : Int)) ⟨by simpa using hl, fun v hv => by
    obtain ⟨u, hu, rfl⟩ := List.mem_map.mp hv
    have := hc u hu; omega, fun p hp e => by
    have := z p hp
    rw [gt_nat, gt_nat] at e; omega⟩
  rw [h] at this; cases this
theorem val_some {n m : Nat} {r : List (Nat × Nat)} (wo : WebOk n r) {cs : List Int} (h : colouringOf n r m = some cs) : 1 ≤ valueAt (powersOf n r) m := by
  obtain ⟨h1, h2, h3⟩ := colour_some wo h
  rw [value_RS _ wo.lt]
  have eg : ∀ i, i < n → ((gn (cs.map Int.toNat) i : Nat) : Int) = gt cs i := fun i hi => by
    have : gn (cs.map Int.toNat) i = (gt cs i).toNat := by
      unfold gn gt
      rw [List.getD_eq_getElem?_getD, List.getD_eq_getElem?_getD, List.getElem?_map]
      cases cs[i]? <;> rfl
    have := (h2 _ (gt_mem (by omega : i < cs.length))).1
    omega
  refine RS_some (n := n) (r := r) (m := m) (fun p hp => by have := wo.lt p hp; omega) (c := cs.map Int.toNat) (fun p hp e => ?_) (fun v hv => ?_) (by simpa using h1) n [] [] (by simp) (by simp) (by simp) (by simp)
  · have := wo.lt p hp
    refine h3 p hp ?_
    rw [← eg _ (by omega), ← eg _ (by omega), e]
  · obtain ⟨u, hu, rfl⟩ := List.mem_map.mp hv
    have := h2 u hu; omega
theorem val_zero {n : Nat} {r : List (Nat × Nat)} (wo : WebOk n r) : valueAt (powersOf n r) ((0 : Nat) : Int) = 0 := by
  refine val_none wo ?_
  cases z : colouringOf n r 0 with
  | none => rfl
  | some g =>
    obtain ⟨h1, h2, _⟩ := colour_some wo z
    have hp := wo.pos
    have := h2 _ (gt_mem (by omega : 0 < g.length)); omega
end TS
namespace TS
/-! ### at less one: the signs that lead nowhere round -/
def Resp {α : Type} (n : Nat) (ρ : Nat → Nat) (f : Nat → α) : Prop := ∀ p, p < n → f (ρ p) = f p
structure Rep (ρ : Nat → Nat) : Prop where
  le : ∀ p, ρ p ≤ p
  id' : ∀ p, ρ (ρ p) = ρ p
open Classical in
noncomputable def wE (n : Nat) (ρ : Nat → Nat) (r : List (Nat × Nat)) (c : List Nat) : Int := if Resp n ρ (gn c) ∧ ∀ p ∈ r, gn c p.1 ≠ gn c p.2 then 1 else 0
def rt (ρ : Nat → Nat) (x : Int) : Nat → Nat → Int
  | 0, _ => 1
  | k + 1, p => (if ρ p = p then x else 1) * rt ρ x k (p + 1)
theorem RS_roots {n : Nat} {ρ : Nat → Nat} (R : Rep ρ) (x : Int) : ∀ (k : Nat) (pre : List Nat) (t : Nat), pre.length + k = n → (∀ v ∈ pre, v < t) → (∀ p, p < pre.length → gn pre (ρ p) = gn pre p) →
    RS (wE n ρ []) x k pre t = ff x t * rt ρ x k pre.length
  | 0, pre, t, h1, h2, h3 => by
    have e : wE n ρ [] pre = 1 := if_pos ⟨fun p hp => h3 p (by omega), fun p hp => by cases hp⟩
    unfold RS rt
    rw [e]; omega
  | k + 1, pre, t, h1, h2, h3 => by
    have new : ∀ i, (ρ pre.length = pre.length ∨ gn pre (ρ pre.length) = i) → ∀ p, p < (pre ++ [i]).length → gn (pre ++ [i]) (ρ p) = gn (pre ++ [i]) p := fun i hi p hp => by
      rw [List.length_append, List.length_singleton] at hp
      have le := R.le p
      by_cases c : p = pre.length
      · subst c
        rw [gn_r1]
        rcases hi with hi | hi
        · rw [hi, gn_r1]
        · by_cases z : ρ pre.length = pre.length
          · rw [z, gn_r1]
          · rw [gn_l (by omega), hi]
      · rw [gn_l (by omega), gn_l (by omega)]; exact h3 p (by omega)
    unfold RS rt
    by_cases c : ρ pre.length = pre.length
    · rw [if_pos c]
      have s1 : sumTo (fun i => RS (wE n ρ []) x k (pre ++ [i]) t) t = sumTo (fun _ => ff x t * rt ρ x k (pre.length + 1)) t := sumTo_congr t fun i hi => by
        rw [RS_roots R x k (pre ++ [i]) t (by rw [List.length_append, List.length_singleton]; omega) (fun v hv => by
          rcases List.mem_append.mp hv with hv | hv
          · exact h2 v hv
          · rw [List.mem_singleton.mp hv]; exact hi) (new i (.inl c)), List.length_append, List.length_singleton]
      rw [s1, sumTo_const, RS_roots R x k (pre ++ [t]) (t + 1) (by rw [List.length_append, List.length_singleton]; omega) (fun v hv => by
          rcases List.mem_append.mp hv with hv | hv
          · have := h2 v hv; omega
          · rw [List.mem_singleton.mp hv]; omega) (new t (.inl c)), List.length_append, List.length_singleton]
      show _ + ff x t * (x - t) * _ = _
      grind
    · rw [if_neg c]
      have lt : ρ pre.length < pre.length := by have := R.le pre.length; omega
      have bad : ∀ i (t' : Nat), gn pre (ρ pre.length) ≠ i → RS (wE n ρ []) x k (pre ++ [i]) t' = 0 := fun i t' hi => RS_bad k _ _ fun s => if_neg fun z => by
        have := z.1 pre.length (by omega)
        rw [List.append_assoc, gn_l lt] at this
        have e : gn (pre ++ ([i] ++ s)) pre.length = i := gn_r
        rw [e] at this
        exact hi this
      have hlt := h2 _ (gn_mem lt)
      rw [sumTo_one t (gn pre (ρ pre.length)) hlt fun i _ hi => bad i t fun e => hi e.symm, bad t (t + 1) (by omega)]
      rw [RS_roots R x k (pre ++ [gn pre (ρ pre.length)]) t (by rw [List.length_append, List.length_singleton]; omega) (fun v hv => by
          rcases List.mem_append.mp hv with hv | hv
          · exact h2 v hv
          · rw [List.mem_singleton.mp hv]; exact hlt) (new _ (.inr rfl)), List.length_append, List.length_singleton]
      grind
/-- two classes become one -/
def mrg (ρ : Nat → Nat) (lo hi : Nat) (w : Nat) : Nat := if ρ w = hi then lo else ρ w
theorem mrg_rep {ρ : Nat → Nat} {lo hi : Nat} (R : Rep ρ) (h1 : ρ lo = lo) (h : lo < hi) : Rep (mrg ρ lo hi) := by
  constructor
  · intro p
    have := R.le p
    unfold mrg; split <;> omega
  · intro p
    unfold mrg
    by_cases c : ρ p = hi
    · rw [if_pos c, h1, if_neg (by omega)]
    · rw [if_neg c, R.id', if_neg c]
theorem mrg_rt {ρ : Nat → Nat} {lo hi : Nat} (R : Rep ρ) (h1 : ρ lo = lo) (h2 : ρ hi = hi) (h : lo < hi) : ∀ (k p : Nat), rt (mrg ρ lo hi) (-1) k p = if p ≤ hi ∧ hi < p + k then - rt ρ (-1) k p else rt ρ (-1) k p
  | 0, p => by rw [if_neg (by omega)]; rfl
  | k + 1, p => by
    unfold rt
    rw [mrg_rt R h1 h2 h k (p + 1)]
    by_cases c : p = hi
    · subst c
      have e : ¬ mrg ρ lo p p = p := by unfold mrg; rw [if_pos h2]; omega
      rw [if_neg e, if_pos h2, if_neg (by omega), if_pos (by omega)]; omega
    · have e : (mrg ρ lo hi p = p) ↔ (ρ p = p) := by
        unfold mrg
        by_cases z : ρ p = hi
        · rw [if_pos z]
          constructor
          · rintro rfl; omega
          · intro q; omega
        · rw [if_neg z]
      have e1 : (if mrg ρ lo hi p = p then (-1 : Int) else 1) = (if ρ p = p then -1 else 1) := by
        by_cases z : ρ p = p
        · rw [if_pos z, if_pos (e.mpr z)]
        · rw [if_neg z, if_neg fun q => z (e.mp q)]
      rw [e1]
      generalize (if ρ p = p then (-1 : Int) else 1) = A
      by_cases d : p + 1 ≤ hi ∧ hi < p + 1 + k
      · rw [if_pos d, if_pos (show p ≤ hi ∧ hi < p + (k + 1) by omega)]; grind
      · rw [if_neg d, if_neg (show ¬ (p ≤ hi ∧ hi < p + (k + 1)) by omega)]
theorem mrg_resp {α : Type} {n : Nat} {ρ : Nat → Nat} {lo hi u v : Nat} {f : Nat → α} (R : Rep ρ) (hu : u < n) (hv : v < n) (hlo : lo < n) (hhi : hi < n) (h1 : ρ lo = lo) (h2 : ρ hi = hi) (huv : (ρ u = lo ∧ ρ v = hi) ∨ (ρ u = hi ∧ ρ v = lo)) :
    Resp n (mrg ρ lo hi) f ↔ Resp n ρ f ∧ f u = f v := by
  constructor
  · intro h
    have hh : f lo = f hi := by have := h hi hhi; unfold mrg at this; rw [if_pos h2] at this; exact this
    have q : Resp n ρ f := fun p hp => by
      have := h p hp
      unfold mrg at this
      by_cases c : ρ p = hi
      · rw [if_pos c] at this; rw [c, ← hh]; exact this
      · rw [if_neg c] at this; exact this
    refine ⟨q, ?_⟩
    rw [← q u hu, ← q v hv]
    rcases huv with ⟨a, b⟩ | ⟨a, b⟩
    · rw [a, b]; exact hh
    · rw [a, b]; exact hh.symm
  · rintro ⟨q, e⟩ p hp
    have hh : f lo = f hi := by
      rw [← q u hu, ← q v hv] at e
      rcases huv with ⟨a, b⟩ | ⟨a, b⟩
      · rw [a, b] at e; exact e
      · rw [a, b] at e; exact e.symm
    unfold mrg
    by_cases c : ρ p = hi
    · rw [if_pos c, hh, ← c]; exact q p hp
    · rw [if_neg c]; exact q p hp
/-- signs that lead nowhere round, the classes taken for one -/
def Acy (n : Nat) (ρ : Nat → Nat) (ar : List (Nat × Nat)) : Prop := ∃ p : Nat → Int, Resp n ρ p ∧ ∀ q ∈ ar, p q.1 + 1 ≤ p q.2
open Classical in
noncomputable def aN (n : Nat) (ρ : Nat → Nat) (r : List (Nat × Nat)) : Nat := ((allSigns r.length).filter fun sg => decide (Acy n ρ (arrowsOf r sg))).length
theorem count_two (Q A B : List Int → Bool) : ∀ (l : List (List Int)), (∀ row ∈ l, (Q (row ++ [-1])).toNat + (Q (row ++ [1])).toNat = (A row).toNat + (B row).toNat) →
    ((l.flatMap fun row => [-1, 1].map fun (s : Int) => row ++ [s]).filter Q).length = (l.filter A).length + (l.filter B).length
  | [], _ => rfl
  | row :: l, h => by
    have ih := count_two Q A B l fun x hx => h x (List.mem_cons_of_mem _ hx)
    have h0 := h row List.mem_cons_self
    rw [List.flatMap_cons, List.filter_append, List.length_append, ih]
    have e : (([-1, 1].map fun (s : Int) => row ++ [s]).filter Q).length = (Q (row ++ [-1])).toNat + (Q (row ++ [1])).toNat := by
      show (([row ++ [-1], row ++ [1]] : List (List Int)).filter Q).length = _
      cases h1 : Q (row ++ [-1]) <;> cases h2 : Q (row ++ [1]) <;> simp [h1, h2]
    rw [e, h0]
    cases h1 : A row <;> cases h2 : B row <;> simp [h1, h2] <;> omega
theorem arrows_snoc {r : List (Nat × Nat)} {sg : List Int} {e : Nat × Nat} {s : Int} (h : sg.length = r.length) : arrowsOf (r ++ [e]) (sg ++ [s]) = arrowsOf r sg ++ [if s = 1 then e else (e.2, e.1)] := by
  unfold arrowsOf
  rw [List.zipWith_append h.symm]; rfl
theorem acy_snoc {n : Nat} {ρ : Nat → Nat} {ar : List (Nat × Nat)} {q : Nat × Nat} : Acy n ρ (ar ++ [q]) ↔ ∃ p : Nat → Int, Resp n ρ p ∧ (∀ q ∈ ar, p q.1 + 1 ≤ p q.2) ∧ p q.1 + 1 ≤ p q.2 := by
  unfold Acy
  constructor
  · rintro ⟨p, h1, h2⟩
    exact ⟨p, h1, fun x hx => h2 x (List.mem_append_left _ hx), h2 q (by simp)⟩
  · rintro ⟨p, h1, h2, h3⟩
    refine ⟨p, h1, fun x hx => ?_⟩
    rcases List.mem_append.mp hx with hx | hx
    · exact h2 x hx
    · rw [List.mem_singleton.mp hx]; exact h3
theorem four {n : Nat} {ρ : Nat → Nat} {ar : List (Nat × Nat)} {u v : Nat} (R : Rep ρ) (hin : ∀ q ∈ ar, q.1 < n ∧ q.2 < n) (hu : u < n) (hv : v < n) (ne : ρ u ≠ ρ v) :
    (Acy n ρ ar ↔ Acy n ρ (ar ++ [(u, v)]) ∨ Acy n ρ (ar ++ [(v, u)])) ∧ ((∃ p : Nat → Int, (Resp n ρ p ∧ p u = p v) ∧ ∀ q ∈ ar, p q.1 + 1 ≤ p q.2) ↔ Acy n ρ (ar ++ [(u, v)]) ∧ Acy n ρ (ar ++ [(v, u)])) := by
  -- moving one class up
  have up : ∀ (p : Nat → Int) (a b : Nat), a < n → b < n → ρ a ≠ ρ b → Resp n ρ p → (∀ q ∈ ar, p q.1 + 1 ≤ p q.2) → p a = p b → Acy n ρ (ar ++ [(a, b)]) := fun p a b ha hb nab h1 h2 e => by
    refine acy_snoc.mpr ⟨fun w => 2 * p w + (if ρ w = ρ b then 1 else 0), fun w hw => ?_, fun q hq => ?_, ?_⟩
    · show 2 * p (ρ w) + (if ρ (ρ w) = ρ b then 1 else 0) = _
      rw [h1 w hw, R.id']
    · have := h2 q hq
      show 2 * p q.1 + (if ρ q.1 = ρ b then 1 else 0) + 1 ≤ 2 * p q.2 + (if ρ q.2 = ρ b then 1 else 0)
      split <;> split <;> omega
    · show 2 * p a + (if ρ a = ρ b then 1 else 0) + 1 ≤ 2 * p b + (if ρ b = ρ b then 1 else 0)
      rw [if_neg nab, if_pos rfl, e]; omega
  refine ⟨⟨?_, ?_⟩, ⟨?_, ?_⟩⟩
  · rintro ⟨p, h1, h2⟩
    rcases Int.lt_trichotomy (p u) (p v) with c | c | c
    · exact .inl (acy_snoc.mpr ⟨p, h1, h2, by show p u + 1 ≤ p v; omega⟩)
    · exact .inl (up p u v hu hv ne h1 h2 c)
    · exact .inr (acy_snoc.mpr ⟨p, h1, h2, by show p v + 1 ≤ p u; omega⟩)
  · rintro (h | h)
    · obtain ⟨p, h1, h2, _⟩ := acy_snoc.mp h; exact ⟨p, h1, h2⟩
    · obtain ⟨p, h1, h2, _⟩ := acy_snoc.mp h; exact ⟨p, h1, h2⟩
  · rintro ⟨p, ⟨h1, e⟩, h2⟩
    exact ⟨up p u v hu hv ne h1 h2 e, up p v u hv hu (fun z => ne z.symm) h1 h2 e.symm⟩
  · rintro ⟨h, h'⟩
    obtain ⟨p, h1, h2, h3⟩ := acy_snoc.mp h
    obtain ⟨p', h1', h2', h3'⟩ := acy_snoc.mp h'
    dsimp only at h3 h3'
    have hA : 1 ≤ p' u - p' v := by omega
    have hB : 1 ≤ p v - p u := by omega
    refine ⟨fun w => (p' u - p' v) * p w + (p v - p u) * p' w, ⟨fun w hw => ?_, ?_⟩, fun q hq => ?_⟩
    · show (p' u - p' v) * p (ρ w) + (p v - p u) * p' (ρ w) = _
      rw [h1 w hw, h1' w hw]
    · show (p' u - p' v) * p u + (p v - p u) * p' u = (p' u - p' v) * p v + (p v - p u) * p' v
      grind
    · have a := h2 q hq
      have b := h2' q hq
      have m1 := Int.mul_le_mul_of_nonneg_left a (show 0 ≤ p' u - p' v by omega)
      have m2 := Int.mul_le_mul_of_nonneg_left b (show 0 ≤ p v - p u by omega)
      show (p' u - p' v) * p q.1 + (p v - p u) * p' q.1 + 1 ≤ (p' u - p' v) * p q.2 + (p v - p u) * p' q.2
      rw [Int.mul_add] at m1 m2
      omega
open Classical in
theorem recip {n : Nat} : ∀ (m : Nat) (r : List (Nat × Nat)), r.length = m → (∀ p ∈ r, p.1 < n ∧ p.2 < n) → ∀ ρ, Rep ρ → RS (wE n ρ r) (-1) n [] 0 = rt ρ (-1) n 0 * (aN n ρ r : Int)
  | 0, r, hm, hr, ρ, R => by
    have e := List.length_eq_zero_iff.mp hm
    subst e
    rw [RS_roots R (-1) n [] 0 (by simp) (by simp) (by simp)]
    have : aN n ρ [] = 1 := by
      unfold aN
      show (([[]] : List (List Int)).filter _).length = 1
      have q : Acy n ρ (arrowsOf [] []) := ⟨fun _ => 0, fun _ _ => rfl, fun q hq => by cases hq⟩
      simp [q]
    rw [this]
    show (1 : Int) * rt ρ (-1) n 0 = rt ρ (-1) n 0 * 1
    omega
  | m + 1, r, hm, hr, ρ, R => by
    have hne : r ≠ [] := fun z => by rw [z] at hm; cases hm
    obtain ⟨r0, e, rfl⟩ : ∃ r0 e, r = r0 ++ [e] := ⟨r.dropLast, r.getLast hne, (List.dropLast_concat_getLast hne).symm⟩
    have hl : r0.length = m := by rw [List.length_append, List.length_singleton] at hm; omega
    have hr0 : ∀ p ∈ r0, p.1 < n ∧ p.2 < n := fun p hp => hr p (List.mem_append_left _ hp)
    have he := hr e (by simp)
    obtain ⟨u, v⟩ := e
    dsimp only at he
    have alls : allSigns (r0 ++ [(u, v)]).length = (allSigns r0.length).flatMap fun row => [-1, 1].map fun (s : Int) => row ++ [s] := by
      rw [List.length_append, List.length_singleton]; rfl
    have snoc : ∀ c : List Nat, (∀ p ∈ r0 ++ [(u, v)], gn c p.1 ≠ gn c p.2) ↔ (∀ p ∈ r0, gn c p.1 ≠ gn c p.2) ∧ gn c u ≠ gn c v := fun c => by
      constructor
      · intro h; exact ⟨fun p hp => h p (List.mem_append_left _ hp), h (u, v) (by simp)⟩
      · rintro ⟨h1, h2⟩ p hp
        rcases List.mem_append.mp hp with hp | hp
        · exact h1 p hp
        · rw [List.mem_singleton.mp hp]; exact h2
    by_cases c : ρ u = ρ v
    · have z : RS (wE n ρ (r0 ++ [(u, v)])) (-1) n [] 0 = 0 := RS_bad n [] 0 fun s => if_neg fun h => by
        have h2 := ((snoc _).mp h.2).2
        rw [← h.1 u he.1, ← h.1 v he.2, c] at h2
        exact h2 rfl
      have z2 : aN n ρ (r0 ++ [(u, v)]) = 0 := by
        unfold aN
        rw [alls, count_two _ (fun _ => false) (fun _ => false) _ fun row hrow => ?_]
        · simp
        · have hrl := ((allSigns_mem _ _).mp hrow).1
          rw [arrows_snoc hrl, arrows_snoc hrl]
          have no : ∀ a b, a < n → b < n → ρ a = ρ b → ¬ Acy n ρ (arrowsOf r0 row ++ [(a, b)]) := fun a b ha hb e h => by
            obtain ⟨p, h1, _, h3⟩ := acy_snoc.mp h
            dsimp only at h3
            rw [← h1 a ha, ← h1 b hb, e] at h3; omega
          rw [if_neg (by decide), if_pos rfl, decide_eq_false (no v u he.2 he.1 c.symm), decide_eq_false (no u v he.1 he.2 c)]
      rw [z, z2]; simp
    · -- the two roots in order
      have lens : ∀ (lo hi : Nat), lo < hi → ((ρ u = lo ∧ ρ v = hi) ∨ (ρ u = hi ∧ ρ v = lo)) → RS (wE n ρ (r0 ++ [(u, v)])) (-1) n [] 0 = rt ρ (-1) n 0 * (aN n ρ (r0 ++ [(u, v)]) : Int) := fun lo hi hlt hcase => by
        have hlu := R.le u
        have hlv := R.le v
        have h1 : ρ lo = lo := by rcases hcase with ⟨a, b⟩ | ⟨a, b⟩ <;> rw [← a, ← b] at * <;> first | exact R.id' _ | (rw [R.id'])
        have h2 : ρ hi = hi := by rcases hcase with ⟨a, b⟩ | ⟨a, b⟩ <;> rw [← a, ← b] at * <;> first | exact R.id' _ | (rw [R.id'])
        have hhi : hi < n := by omega
        have hlo : lo < n := by omega
        have R' := mrg_rep (hi := hi) R h1 hlt
        have resp := fun {α : Type} (f : Nat → α) => mrg_resp (f := f) R he.1 he.2 hlo hhi h1 h2 hcase
        have e1 : RS (wE n ρ (r0 ++ [(u, v)])) (-1) n [] 0 = RS (wE n ρ r0) (-1) n [] 0 - RS (wE n (mrg ρ lo hi) r0) (-1) n [] 0 := by
          refine RS_sub (fun c => ?_) n [] 0
          unfold wE
          have s := snoc c
          have q := resp (gn c)
          by_cases a : Resp n ρ (gn c) <;> by_cases b : (∀ p ∈ r0, gn c p.1 ≠ gn c p.2) <;> by_cases d : gn c u = gn c v
          · rw [if_neg (fun z => (s.mp z.2).2 d), if_pos ⟨a, b⟩, if_pos ⟨q.mpr ⟨a, d⟩, b⟩]; rfl
          · rw [if_pos ⟨a, s.mpr ⟨b, d⟩⟩, if_pos ⟨a, b⟩, if_neg (fun z => d (q.mp z.1).2)]; rfl
          · rw [if_neg (fun z => b (s.mp z.2).1), if_neg (fun z => b z.2), if_neg (fun z => b z.2)]; rfl
          · rw [if_neg (fun z => b (s.mp z.2).1), if_neg (fun z => b z.2), if_neg (fun z => b z.2)]; rfl
          all_goals rw [if_neg (fun z => a z.1), if_neg (fun z => a z.1), if_neg (fun z => a (q.mp z.1).1)]; rfl
        have e2 : aN n ρ (r0 ++ [(u, v)]) = aN n ρ r0 + aN n (mrg ρ lo hi) r0 := by
          unfold aN
          rw [alls]
          refine count_two _ _ _ _ fun row hrow => ?_
          have hrl := ((allSigns_mem _ _).mp hrow).1
          rw [arrows_snoc hrl, arrows_snoc hrl, if_neg (by decide), if_pos rfl]
          dsimp only
          have hin : ∀ q ∈ arrowsOf r0 row, q.1 < n ∧ q.2 < n := fun q hq => by
            obtain ⟨i, p, z1, z2⟩ := (arrows_mem hrl).mp hq
            have := hr0 p (List.mem_of_getElem? z1)
            rw [z2]; split
            · exact this
            · exact ⟨this.2, this.1⟩
          obtain ⟨f1, f2⟩ := four (u := u) (v := v) R hin he.1 he.2 c
          have f3 : Acy n (mrg ρ lo hi) (arrowsOf r0 row) ↔ Acy n ρ (arrowsOf r0 row ++ [(u, v)]) ∧ Acy n ρ (arrowsOf r0 row ++ [(v, u)]) := by
            rw [← f2]
            unfold Acy
            constructor
            · rintro ⟨p, a, b⟩; exact ⟨p, (resp p).mp a, b⟩
            · rintro ⟨p, a, b⟩; exact ⟨p, (resp p).mpr a, b⟩
          by_cases a : Acy n ρ (arrowsOf r0 row ++ [(u, v)]) <;> by_cases b : Acy n ρ (arrowsOf r0 row ++ [(v, u)])
          · rw [decide_eq_true a, decide_eq_true b, decide_eq_true (f1.mpr (.inl a)), decide_eq_true (f3.mpr ⟨a, b⟩)]
          · rw [decide_eq_true a, decide_eq_false b, decide_eq_true (f1.mpr (.inl a)), decide_eq_false (fun z => b (f3.mp z).2)]; rfl
          · rw [decide_eq_false a, decide_eq_true b, decide_eq_true (f1.mpr (.inr b)), decide_eq_false (fun z => a (f3.mp z).1)]
          · rw [decide_eq_false a, decide_eq_false b, decide_eq_false (fun z => (f1.mp z).elim a b), decide_eq_false (fun z => a (f3.mp z).1)]
        rw [e1, recip m r0 hl hr0 ρ R, recip m r0 hl hr0 (mrg ρ lo hi) R', mrg_rt R h1 h2 hlt n 0, if_pos (by omega), e2]
        grind
      by_cases d : ρ u < ρ v
      · exact lens (ρ u) (ρ v) d (.inl ⟨rfl, rfl⟩)
      · exact lens (ρ v) (ρ u) (by omega) (.inr ⟨rfl, rfl⟩)
theorem rt_one (ρ : Nat → Nat) : ∀ (k p : Nat), rt ρ (-1) k p = 1 ∨ rt ρ (-1) k p = -1
  | 0, p => .inl rfl
  | k + 1, p => by
    unfold rt
    rcases rt_one ρ k (p + 1) with e | e <;> rw [e] <;> split <;> simp
open Classical in
theorem count_fact {n : Nat} {r : List (Nat × Nat)} (wo : WebOk n r) : ab (valueAt (powersOf n r) (-1)) = ((ringlessSigns n r).length : Int) := by
  have R : Rep (fun p => p) := ⟨fun p => Nat.le_refl _, fun _ => rfl⟩
  have e : RS (wR r) (-1) n [] 0 = RS (wE n (fun p => p) r) (-1) n [] 0 := by
    refine RS_congr (fun c => ?_) n [] 0
    unfold wR wE
    by_cases h : ∀ p ∈ r, gn c p.1 ≠ gn c p.2
    · rw [if_pos h, if_pos ⟨fun _ _ => rfl, h⟩]
    · rw [if_neg h, if_neg fun z => h z.2]
  rw [value_RS _ wo.lt, e, recip r.length r rfl (fun p hp => by have := wo.lt p hp; omega) _ R]
  have a : aN n (fun p => p) r = (ringlessSigns n r).length := by
    unfold aN ringlessSigns
    congr 1
    refine List.filter_congr fun sg _ => ?_
    have q := heights_iff (sg := sg) wo
    cases z : heightsOf n r sg with
    | none =>
      refine decide_eq_false fun ⟨p, _, h⟩ => ?_
      obtain ⟨h, hh⟩ := q.mpr ⟨p, h⟩
      rw [z] at hh; cases hh
    | some h =>
      obtain ⟨p, hp⟩ := q.mp ⟨h, z⟩
      exact decide_eq_true ⟨p, fun _ _ => rfl, hp⟩
  rw [a]
  rcases rt_one (fun p => p) n 0 with e | e <;> rw [e] <;> unfold ab <;> split <;> omega
theorem alt_go : ∀ (ps : List Int) (k : Nat) (s : Int), (ps.zipIdx k).foldl (fun s q => s + q.1 * (1 - 2 * ((q.2 : Int) % 2))) s = s + (1 - 2 * ((k : Int) % 2)) * valueAt ps (-1)
  | [], k, s => by simp [val_nil]
  | c :: ps, k, s => by
    rw [List.zipIdx_cons, List.foldl_cons, alt_go ps (k + 1), val_cons]
    dsimp only
    have : (((k + 1 : Nat) : Int) % 2) = 1 - (k : Int) % 2 := by omega
    rw [this]
    grind
theorem alt_val (ps : List Int) : altSum ps = valueAt ps (-1) := by
  unfold altSum
  rw [alt_go]; simp
end TS
namespace TS
/-! ### rings -/
def Adj (r : List (Nat × Nat)) (u v : Nat) : Prop := (u, v) ∈ r ∨ (v, u) ∈ r
theorem Adj.symm {r : List (Nat × Nat)} {u v : Nat} (h : Adj r u v) : Adj r v u := Or.symm h
structure Ring (n : Nat) (r : List (Nat × Nat)) (l : List Nat) : Prop where
  nd : l.Nodup
  ge : 3 ≤ l.length
  lt : ∀ x ∈ l, x < n
  adj : ∀ q ∈ rnd l, Adj r q.1 q.2
theorem cp_snoc (a : List Nat) (x p : Nat) : cp (a ++ [x] ++ [p]) = cp (a ++ [x]) ++ [(x, p)] := by
  rw [List.append_assoc]
  show cp (a ++ x :: [p]) = _
  rw [cp_mid]; rfl
theorem snoc_of {l : List Nat} (h : l ≠ []) : ∃ a x, l = a ++ [x] := ⟨l.dropLast, l.getLast h, (List.dropLast_concat_getLast h).symm⟩
theorem last_snoc (a : List Nat) (x : Nat) : (a ++ [x]).getLastD 0 = x := by
  rw [List.getLastD_eq_getLast?]; simp
theorem ways_sound {n : Nat} {r : List (Nat × Nat)} (hr : ∀ p ∈ r, p.1 < p.2 ∧ p.2 < n) : ∀ (k : Nat) (w : List Nat), w ≠ [] → w.Nodup → (∀ x ∈ w, x < n) → (∀ q ∈ cp w, Adj r q.1 q.2) → ∀ x ∈ waysOn r k w, Ring n r x
  | 0, w, _, _, _, _, x, hx => nomatch hx
  | k + 1, w, h0, h1, h2, h3, x, hx => by
    obtain ⟨p, hp, hx⟩ := List.mem_flatMap.mp hx
    have ha := nbrsS_mem.mp hp
    obtain ⟨a, z, rfl⟩ := snoc_of h0
    rw [last_snoc] at ha
    have hpn : p < n := by rcases ha with h | h <;> have := hr _ h <;> dsimp only at this <;> omega
    rcases List.mem_append.mp hx with hx | hx
    · split at hx
      · rename_i hc
        obtain ⟨c1, c2, c3⟩ := hc
        cases List.mem_singleton.mp hx
        refine ⟨h1, by omega, h2, fun q hq => ?_⟩
        have e : rnd (a ++ [z]) = cp (a ++ [z] ++ [p]) := by
          cases a with
          | nil => simp at c2
          | cons y a => rw [c1]; rfl
        rw [e, cp_snoc] at hq
        rcases List.mem_append.mp hq with hq | hq
        · exact h3 q hq
        · rw [List.mem_singleton.mp hq]; exact ha
      · cases hx
    · split at hx
      · rename_i hc
        refine ways_sound hr k _ (by simp) ?_ (fun y hy => ?_) (fun q hq => ?_) x hx
        · rw [List.nodup_append]
          exact ⟨h1, by simp, fun u hu v hv e => by rw [List.mem_singleton] at hv; subst hv; subst e; exact hc.2 hu⟩
        · rcases List.mem_append.mp hy with hy | hy
          · exact h2 y hy
          · rw [List.mem_singleton.mp hy]; exact hpn
        · rw [cp_snoc] at hq
          rcases List.mem_append.mp hq with hq | hq
          · exact h3 q hq
          · rw [List.mem_singleton.mp hq]; exact ha
      · cases hx
theorem raw_sound {n : Nat} {r : List (Nat × Nat)} (wo : WebOk n r) : ∀ x ∈ rawRings n r, Ring n r x := fun x hx => by
  obtain ⟨p, hp, hx⟩ := List.mem_flatMap.mp hx
  exact ways_sound wo.lt n [p] (by simp) (by simp) (by simpa using List.mem_range.mp hp) (fun q hq => nomatch hq) x hx
theorem ways_complete {r : List (Nat × Nat)} {m y z : Nat} {u : List Nat} (nd : (m :: y :: u ++ [z]).Nodup) (hm : ∀ x ∈ y :: u ++ [z], m < x) (hyz : y < z) (hadj : ∀ q ∈ cp (m :: y :: u ++ [z]), Adj r q.1 q.2) (hend : Adj r z m) :
    ∀ (s w : List Nat) (k : Nat), w ≠ [] → w ++ s = m :: y :: u ++ [z] → s.length + 1 ≤ k → m :: y :: u ++ [z] ∈ waysOn r k w
  | [], w, k, h0, e, hk => by
    rw [List.append_nil] at e
    subst e
    obtain ⟨k', rfl⟩ : ∃ k', k = k' + 1 := ⟨k - 1, by simp at hk; omega⟩
    refine List.mem_flatMap.mpr ⟨m, nbrsS_mem.mpr ?_, List.mem_append_left _ ?_⟩
    · have : (m :: y :: u ++ [z]).getLastD 0 = z := last_snoc (m :: y :: u) z
      rw [this]; exact hend
    · rw [if_pos]
      · simp
      · refine ⟨rfl, by simp, ?_⟩
        have : (m :: y :: u ++ [z]).getLastD 0 = z := last_snoc (m :: y :: u) z
        rw [this]; exact hyz
  | p :: s, w, k, h0, e, hk => by
    obtain ⟨k', rfl⟩ : ∃ k', k = k' + 1 := ⟨k - 1, by simp at hk; omega⟩
    obtain ⟨a, x, rfl⟩ := snoc_of h0
    have e' : a ++ [x] ++ [p] ++ s = m :: y :: u ++ [z] := by rw [← e]; simp
    have ha : (x, p) ∈ cp (m :: y :: u ++ [z]) := by
      rw [← e, List.append_assoc]
      show (x, p) ∈ cp (a ++ x :: (p :: s))
      rw [cp_mid]
      exact List.mem_append_right _ (by show (x, p) ∈ (x, p) :: cp (p :: s); exact List.mem_cons_self)
    have hnd : p ∉ a ++ [x] := fun hm => by
      rw [← e, List.nodup_append] at nd
      exact nd.2.2 p hm p List.mem_cons_self rfl
    have hh : (a ++ [x]).headD 0 = m := by
      cases a with
      | nil => simp at e ⊢; exact e.1
      | cons b a => simp at e ⊢; exact e.1
    have hpm : m < p := by
      refine hm p ?_
      have : p ∈ m :: (y :: u ++ [z]) := by
        have h : p ∈ a ++ [x] ++ p :: s := by simp
        rw [e] at h; exact h
      rcases List.mem_cons.mp this with q | q
      · exfalso
        refine hnd ?_
        rw [q, ← hh]
        cases a with
        | nil => simp
        | cons b a => simp
      · exact q
    refine List.mem_flatMap.mpr ⟨p, nbrsS_mem.mpr ?_, List.mem_append_right _ ?_⟩
    · rw [last_snoc]; exact hadj _ ha
    · rw [hh, if_pos ⟨hpm, hnd⟩]
      exact ways_complete nd hm hyz hadj hend s (a ++ [x] ++ [p]) k' (by simp) e' (by simp at hk; omega)
theorem raw_complete {n : Nat} {r : List (Nat × Nat)} {l : List Nat} (R : Ring n r l) : ∃ x ∈ rawRings n r, (rnd x).Perm (rnd l) ∨ (rnd x).Perm ((rnd l).map sw) := by
  have hne : l ≠ [] := fun z => by have := R.ge; rw [z] at this; simp at this
  have hmm := minN_mem hne
  have hml : ∀ x ∈ l, minN l ≤ x := minN_le
  generalize minN l = m at hmm hml
  obtain ⟨a, b, rfl⟩ := List.append_of_mem hmm
  have pm : (rnd (m :: (b ++ a))).Perm (rnd (a ++ m :: b)) := rnd_rot (m :: b) a
  have pl : (m :: (b ++ a)).Perm (a ++ m :: b) := List.perm_append_comm (l₁ := m :: b) (l₂ := a)
  have nd : (m :: (b ++ a)).Nodup := pl.nodup_iff.mpr R.nd
  have ge : 3 ≤ (m :: (b ++ a)).length := by rw [pl.length_eq]; exact R.ge
  have lt : ∀ x ∈ m :: (b ++ a), x < n ∧ m ≤ x := fun x hx => ⟨R.lt x (pl.mem_iff.mp hx), hml x (pl.mem_iff.mp hx)⟩
  have ad : ∀ q ∈ rnd (m :: (b ++ a)), Adj r q.1 q.2 := fun q hq => R.adj q (pm.mem_iff.mp hq)
  generalize b ++ a = t at pm nd ge lt ad
  obtain ⟨y, t, rfl⟩ : ∃ y t', t = y :: t' := List.exists_cons_of_ne_nil fun z => by rw [z] at ge; simp at ge
  obtain ⟨u, z, rfl⟩ := snoc_of (l := t) fun z => by rw [z] at ge; simp at ge
  have go : ∀ (y z : Nat) (u : List Nat), (m :: y :: u ++ [z]).Nodup → (∀ x ∈ m :: y :: u ++ [z], x < n ∧ m ≤ x) → (∀ q ∈ rnd (m :: y :: u ++ [z]), Adj r q.1 q.2) → y < z → m :: y :: u ++ [z] ∈ rawRings n r := fun y z u nd lt ad hyz => by
    have e : rnd (m :: y :: u ++ [z]) = cp (m :: y :: u ++ [z]) ++ [(z, m)] := cp_snoc (m :: y :: u) z m
    refine List.mem_flatMap.mpr ⟨m, List.mem_range.mpr (lt m (by simp)).1, ways_complete nd (fun x hx => ?_) hyz (fun q hq => ad q (by rw [e]; exact List.mem_append_left _ hq)) (ad (z, m) (by rw [e]; simp)) (y :: u ++ [z]) [m] n (by simp) rfl ?_⟩
    · have h1 := (lt x (List.mem_cons_of_mem _ hx)).2
      have h2 : x ≠ m := fun q => by subst q; exact (List.nodup_cons.mp nd).1 hx
      omega
    · have := nodup_le n _ nd fun x hx => (lt x hx).1
      simpa using this
  have hyz : y ≠ z := fun q => by
    subst q
    have := (List.nodup_cons.mp (List.nodup_cons.mp nd).2).1
    simp at this
  by_cases c : y < z
  · exact ⟨_, go y z u nd lt ad c, .inl pm⟩
  · have er : m :: (y :: (u ++ [z])).reverse = m :: z :: u.reverse ++ [y] := by simp
    have pr : (m :: (y :: (u ++ [z])).reverse).Perm (m :: y :: (u ++ [z])) := (List.reverse_perm _).cons m
    have tr := rnd_turn m (y :: (u ++ [z]))
    rw [er] at pr tr
    refine ⟨_, go z y u.reverse (pr.nodup_iff.mpr nd) (fun x hx => lt x (pr.mem_iff.mp hx)) (fun q hq => ?_) (by omega), .inr (tr.trans (pm.map sw))⟩
    obtain ⟨q', hq', rfl⟩ := List.mem_map.mp (tr.mem_iff.mp hq)
    exact (ad q' hq').symm
/-- what holds of all rings both ways gives a potential -/
theorem pot_rings {n : Nat} {r : List (Nat × Nat)} (wo : WebOk n r) (f : Nat × Nat → Int) (h2 : ∀ u v, Adj r u v → f (u, v) + f (v, u) ≤ 0)
    (hr : ∀ x ∈ rawRings n r, isum ((rnd x).map f) ≤ 0 ∧ isum (((rnd x).map sw).map f) ≤ 0) : ∃ p : Nat → Int, ∀ u v, Adj r u v → p u + f (u, v) ≤ p v := by
  have ltA : ∀ u v, Adj r u v → u < n ∧ v < n ∧ u ≠ v := fun u v h => by
    rcases h with h | h <;> have := wo.lt _ h <;> dsimp only at this <;> omega
  have sum : ∀ l, Ring n r l → isum ((rnd l).map f) ≤ 0 := fun l R => by
    obtain ⟨x, hx, h | h⟩ := raw_complete R
    · rw [← isum_perm (h.map f)]; exact (hr x hx).1
    · have h' : ((rnd x).map sw).Perm (rnd l) := by
        have := h.map sw
        rw [List.map_map] at this
        have e : (sw ∘ sw) = id := by funext q; rfl
        rw [e, List.map_id] at this
        exact this
      rw [← isum_perm (h'.map f)]; exact (hr x hx).2
  obtain ⟨p, hp⟩ := pot_of (adj := Adj r) (wt := fun u v => f (u, v)) (n := n) (fun u v h => (ltA u v h).2.2) (fun u a v hP huv => by
    cases a with
    | nil =>
      have := h2 u v huv
      show isum ((cp [u, v]).map fun q => f (q.2, q.1)) + f (u, v) ≤ 0
      simp [cp, isum]; omega
    | cons b a =>
      have e : rnd (u :: b :: a ++ [v]).reverse = cp ((u :: b :: a ++ [v]).reverse) ++ [(u, v)] := by
        have e1 : (u :: b :: a ++ [v]).reverse = v :: (b :: a).reverse ++ [u] := by simp
        rw [e1]
        exact cp_snoc (v :: (b :: a).reverse) u v
      have R : Ring n r (u :: b :: a ++ [v]).reverse := by
        refine ⟨(List.reverse_perm _).nodup_iff.mpr hP.1, by simp, fun x hx => hP.2.1 x (by simpa [or_comm, or_left_comm, or_assoc] using hx), fun q hq => ?_⟩
        rw [e, cp_rev] at hq
        rcases List.mem_append.mp hq with hq | hq
        · obtain ⟨q', hq', rfl⟩ := List.mem_map.mp hq
          exact hP.2.2 q' (List.mem_reverse.mp hq')
        · rw [List.mem_singleton.mp hq]; exact huv
      have s := sum _ R
      rw [e, cp_rev, List.map_append, isum_append, List.map_map] at s
      have q : isum (List.map (f ∘ sw) (cp (u :: b :: a ++ [v])).reverse) = pw (fun u v => f (u, v)) (u :: b :: a ++ [v]) := isum_perm ((List.reverse_perm _).map _)
      rw [q] at s
      simp only [List.map_cons, List.map_nil, isum] at s
      omega)
  exact ⟨p, fun u v h => hp u v (ltA u v h).1 (ltA u v h).2.1 h⟩
/-! ### arrows of rings -/
def vl (ar : List (Nat × Nat)) (q : Nat × Nat) : Int := if q ∈ ar then 1 else 0
theorem arrow_one {n : Nat} {r : List (Nat × Nat)} {sg : List Int} (wo : WebOk n r) (so : SgOk r sg) {u v : Nat} (h : Adj r u v) : vl (arrowsOf r sg) (u, v) + vl (arrowsOf r sg) (v, u) = 1 := by
  have key : ∀ u v, (u, v) ∈ r → vl (arrowsOf r sg) (u, v) + vl (arrowsOf r sg) (v, u) = 1 := fun u v h => by
    have hlt := (wo.lt _ h).1
    dsimp only at hlt
    obtain ⟨i, hi⟩ := List.mem_iff_getElem?.mp h
    have him := (List.getElem?_eq_some_iff.mp hi).1
    have one : ∀ j, r[j]? = some (u, v) → j = i := fun j hj => ((List.getElem?_inj him wo.nd).mp (hi.trans hj.symm)).symm
    have no : ∀ (j : Nat), r[j]? ≠ some (v, u) := fun j hj => by have := (wo.lt _ (List.mem_of_getElem? hj)).1; dsimp only at this; omega
    have pm := so.pm _ (gt_mem (by have := so.len; omega : i < sg.length))
    unfold vl
    by_cases c : gt sg i = 1
    · have h1 : (u, v) ∈ arrowsOf r sg := (arrows_mem so.len).mpr ⟨i, _, hi, by rw [if_pos c]⟩
      have h2 : ¬ (v, u) ∈ arrowsOf r sg := fun z => by
        obtain ⟨j, p, hj, e⟩ := (arrows_mem so.len).mp z
        by_cases d : gt sg j = 1
        · rw [if_pos d] at e; rw [← e] at hj; exact no j hj
        · rw [if_neg d] at e
          have : p = (u, v) := by rw [Prod.ext_iff] at e ⊢; exact ⟨e.2.symm, e.1.symm⟩
          rw [this] at hj
          rw [one j hj] at d; exact d c
      rw [if_pos h1, if_neg h2]; rfl
    · have h1 : (v, u) ∈ arrowsOf r sg := (arrows_mem so.len).mpr ⟨i, _, hi, by rw [if_neg c]⟩
      have h2 : ¬ (u, v) ∈ arrowsOf r sg := fun z => by
        obtain ⟨j, p, hj, e⟩ := (arrows_mem so.len).mp z
        by_cases d : gt sg j = 1
        · rw [if_pos d] at e; rw [← e] at hj; rw [one j hj] at d; exact c d
        · rw [if_neg d] at e
          have : p = (v, u) := by rw [Prod.ext_iff] at e ⊢; exact ⟨e.2.symm, e.1.symm⟩
          rw [this] at hj; exact no j hj
      rw [if_neg h2, if_pos h1]; rfl
  rcases h with h | h
  · exact key u v h
  · have := key v u h; omega
theorem arrow_adj {r : List (Nat × Nat)} {sg : List Int} (hl : sg.length = r.length) {q : Nat × Nat} (h : q ∈ arrowsOf r sg) : Adj r q.1 q.2 := by
  obtain ⟨i, p, hi, e⟩ := (arrows_mem hl).mp h
  have hm := List.mem_of_getElem? hi
  rw [e]
  split
  · exact .inl hm
  · exact .inr hm
theorem fwd_sum (r : List (Nat × Nat)) (sg : List Int) (x : List Nat) : (fwd r sg x : Int) = isum ((rnd x).map (vl (arrowsOf r sg))) := by
  unfold fwd
  have : ∀ l : List (Nat × Nat), ((l.filter fun p => decide (p ∈ arrowsOf r sg)).length : Int) = isum (l.map (vl (arrowsOf r sg))) := fun l => by
    induction l with
    | nil => rfl
    | cons q l ih =>
      rw [List.map_cons]
      unfold isum
      rw [← ih]
      by_cases c : q ∈ arrowsOf r sg
      · rw [List.filter_cons_of_pos (p := fun p => decide (p ∈ arrowsOf r sg)) (decide_eq_true c), List.length_cons]
        have : vl (arrowsOf r sg) q = 1 := if_pos c
        omega
      · rw [List.filter_cons_of_neg (by simpa using c)]
        have : vl (arrowsOf r sg) q = 0 := if_neg c
        omega
  exact this _
theorem isum_add {α : Type} (f g : α → Int) : ∀ l : List α, isum (l.map fun x => f x + g x) = isum (l.map f) + isum (l.map g)
  | [] => rfl
  | x :: l => by
    have := isum_add f g l
    simp only [List.map_cons, isum]; omega
theorem isum_lin {α : Type} (c d : Int) (f : α → Int) : ∀ l : List α, isum (l.map fun x => c * f x + d) = c * isum (l.map f) + d * l.length
  | [] => by simp [isum]
  | x :: l => by
    have := isum_lin c d f l
    simp only [List.map_cons, isum, List.length_cons]
    rw [this]; grind
theorem isum_congr {α : Type} {f g : α → Int} (l : List α) (h : ∀ x ∈ l, f x = g x) : isum (l.map f) = isum (l.map g) := by
  rw [List.map_congr_left h]
/-- the arrows back -/
theorem back_sum {n : Nat} {r : List (Nat × Nat)} {sg : List Int} (wo : WebOk n r) (so : SgOk r sg) {x : List Nat} (R : Ring n r x) : isum (((rnd x).map sw).map (vl (arrowsOf r sg))) = (x.length : Int) - (fwd r sg x : Int) := by
  have h : isum ((rnd x).map fun q => vl (arrowsOf r sg) q + vl (arrowsOf r sg) (sw q)) = isum ((rnd x).map fun q => 0 * vl (arrowsOf r sg) q + 1) := isum_congr _ fun q hq => by
    have := arrow_one wo so (R.adj q hq)
    show vl _ (q.1, q.2) + vl _ (q.2, q.1) = _
    omega
  rw [isum_add, isum_lin, rnd_len] at h
  rw [List.map_map, fwd_sum]
  have e : isum ((rnd x).map (vl (arrowsOf r sg) ∘ sw)) = isum ((rnd x).map fun q => vl (arrowsOf r sg) (sw q)) := rfl
  omega
theorem fwd_le (r : List (Nat × Nat)) (sg : List Int) (x : List Nat) : fwd r sg x ≤ x.length := by
  unfold fwd
  have := List.length_filter_le (fun p => decide (p ∈ arrowsOf r sg)) (rnd x)
  rw [rnd_len] at this; exact this
end TS
namespace TS
/-! ### times by signs -/
def Fe (r : List (Nat × Nat)) (sg : List Int) (h a : Int) : Prop := ∃ p : Nat → Int, ∀ q ∈ arrowsOf r sg, a ≤ p q.2 - p q.1 ∧ p q.2 - p q.1 ≤ h - a
theorem times_iff {n : Nat} {r : List (Nat × Nat)} (wo : WebOk n r) (sg : List Int) (h a : Int) : (timesBy n r sg h a).isSome = true ↔ Fe r sg h a := by
  have hin : InN n (arcs2 (arrowsOf r sg) h a) := fun x hx => by
    obtain ⟨p, hp, hx⟩ := List.mem_flatMap.mp hx
    have := arrows_lt wo.lt p hp
    simp at hx
    rcases hx with rfl | rfl <;> dsimp only <;> omega
  unfold timesBy
  rw [Option.isSome_iff_exists, bf_iff wo.pos hin (by omega)]
  constructor
  · rintro ⟨p, hp⟩
    refine ⟨p, fun q hq => ?_⟩
    have h1 := hp (q.1, q.2, a) (List.mem_flatMap.mpr ⟨q, hq, by simp⟩)
    have h2 := hp (q.2, q.1, a - h) (List.mem_flatMap.mpr ⟨q, hq, by simp⟩)
    dsimp only at h1 h2
    omega
  · rintro ⟨p, hp⟩
    refine ⟨p, fun x hx => ?_⟩
    obtain ⟨q, hq, hx⟩ := List.mem_flatMap.mp hx
    have := hp q hq
    simp at hx
    rcases hx with rfl | rfl <;> dsimp only <;> omega
def few (r : List (Nat × Nat)) (sg : List Int) (x : List Nat) : Nat := min (fwd r sg x) (x.length - fwd r sg x)
theorem fe_iff {n : Nat} {r : List (Nat × Nat)} {rings : List (List Nat)} (wo : WebOk n r) (hrg : ∀ x, x ∈ rings ↔ x ∈ rawRings n r) {sg : List Int} (so : SgOk r sg) (hne : r ≠ []) (h a : Nat) (ha : 1 ≤ a) :
    Fe r sg h a ↔ 2 * a ≤ h ∧ ∀ x ∈ rings, x.length * a ≤ few r sg x * h := by
  constructor
  · rintro ⟨p, hp⟩
    constructor
    · obtain ⟨e, t, rfl⟩ := List.exists_cons_of_ne_nil hne
      have hm : (if gt sg 0 = 1 then e else (e.2, e.1)) ∈ arrowsOf (e :: t) sg := (arrows_mem so.len).mpr ⟨0, e, rfl, rfl⟩
      have := hp _ hm
      omega
    · intro x hx
      have R := raw_sound wo x ((hrg x).mp hx)
      have le := fwd_le r sg x
      have F := fwd_sum r sg x
      have tel := rnd_tel p x
      have lo : isum ((rnd x).map fun q => (h : Int) * vl (arrowsOf r sg) q + ((a : Int) - h)) ≤ isum ((rnd x).map fun q => p q.2 - p q.1) := isum_le _ fun q hq => by
        have o := arrow_one wo so (R.adj q hq)
        unfold vl at o ⊢
        by_cases c : q ∈ arrowsOf r sg
        · rw [if_pos c]; have := hp q c; omega
        · rw [if_neg c]
          by_cases d : (q.2, q.1) ∈ arrowsOf r sg
          · have := hp _ d; dsimp only at this; omega
          · rw [if_neg d, if_neg c] at o; omega
      have hi : isum ((rnd x).map fun q => p q.2 - p q.1) ≤ isum ((rnd x).map fun q => (h : Int) * vl (arrowsOf r sg) q + (-(a : Int))) := isum_le _ fun q hq => by
        have o := arrow_one wo so (R.adj q hq)
        unfold vl at o ⊢
        by_cases c : q ∈ arrowsOf r sg
        · rw [if_pos c]; have := hp q c; omega
        · rw [if_neg c]
          by_cases d : (q.2, q.1) ∈ arrowsOf r sg
          · have := hp _ d; dsimp only at this; omega
          · rw [if_neg d, if_neg c] at o; omega
      rw [isum_lin, rnd_len, ← F, tel] at lo
      rw [isum_lin, rnd_len, ← F, tel] at hi
      have key1 : (x.length : Int) * a ≤ (fwd r sg x : Int) * h := by grind
      have key2 : (x.length : Int) * a ≤ ((x.length - fwd r sg x : Nat) : Int) * h := by
        rw [Int.ofNat_sub le]; grind
      unfold few
      rcases Nat.le_total (fwd r sg x) (x.length - fwd r sg x) with c | c
      · rw [Nat.min_eq_left c]; exact_mod_cast key1
      · rw [Nat.min_eq_right c]; exact_mod_cast key2
  · rintro ⟨h2, hx⟩
    obtain ⟨p, hp⟩ := pot_rings wo (fun q => (h : Int) * vl (arrowsOf r sg) q + ((a : Int) - h)) (fun u v huv => by
      have o := arrow_one wo so huv
      have : (h : Int) * vl (arrowsOf r sg) (u, v) + (h : Int) * vl (arrowsOf r sg) (v, u) = h := by rw [← Int.mul_add, o]; omega
      omega) (fun x hxr => by
      have R := raw_sound wo x hxr
      have le := fwd_le r sg x
      have F := fwd_sum r sg x
      have B := back_sum wo so R
      have q := hx x ((hrg x).mpr hxr)
      have q1 : x.length * a ≤ fwd r sg x * h := Nat.le_trans q (Nat.mul_le_mul_right _ (Nat.min_le_left _ _))
      have q2 : x.length * a ≤ (x.length - fwd r sg x) * h := Nat.le_trans q (Nat.mul_le_mul_right _ (Nat.min_le_right _ _))
      have q1' : (x.length : Int) * a ≤ (fwd r sg x : Int) * h := by exact_mod_cast q1
      have q2' : (x.length : Int) * a ≤ ((x.length : Int) - fwd r sg x) * h := by rw [← Int.ofNat_sub le]; exact_mod_cast q2
      rw [isum_lin, isum_lin, rnd_len, List.length_map, rnd_len, ← F, B]
      constructor <;> grind)
    refine ⟨p, fun q hq => ?_⟩
    have ad := arrow_adj so.len hq
    have o := arrow_one wo so ad
    have v1 : vl (arrowsOf r sg) (q.1, q.2) = 1 := if_pos hq
    have v2 : vl (arrowsOf r sg) (q.2, q.1) = 0 := by omega
    have h1 := hp q.1 q.2 ad
    have h3 := hp q.2 q.1 ad.symm
    rw [v1] at h1
    rw [v2] at h3
    omega
theorem frac_trans {a h x y L f : Nat} (hf : 0 < f) (h1 : x * f ≤ L * y) (h2 : a * L ≤ h * f) : a * x ≤ h * y := by
  have q1 := Nat.mul_le_mul_left a h1
  have q2 := Nat.mul_le_mul_right y h2
  refine Nat.le_of_mul_le_mul_left (?_ : f * (a * x) ≤ f * (h * y)) hf
  have e1 : f * (a * x) = a * (x * f) := by grind
  have e2 : a * (L * y) = a * L * y := by grind
  have e3 : f * (h * y) = h * f * y := by grind
  omega
theorem gcd_frac {a h L f : Nat} (hf : 0 < f) : a * (L / Nat.gcd L f) ≤ h * (f / Nat.gcd L f) ↔ a * L ≤ h * f := by
  have hg : 0 < Nat.gcd L f := Nat.gcd_pos_of_pos_right _ hf
  have e1 : L = Nat.gcd L f * (L / Nat.gcd L f) := (Nat.mul_div_cancel' (Nat.gcd_dvd_left _ _)).symm
  have e2 : f = Nat.gcd L f * (f / Nat.gcd L f) := (Nat.mul_div_cancel' (Nat.gcd_dvd_right _ _)).symm
  generalize Nat.gcd L f = g at *
  generalize L / g = u at *
  generalize f / g = v at *
  subst e1 e2
  have e3 : a * (g * u) = g * (a * u) := by grind
  have e4 : h * (g * v) = g * (h * v) := by grind
  rw [e3, e4]
  exact ⟨fun q => Nat.mul_le_mul_left g q, fun q => Nat.le_of_mul_le_mul_left q hg⟩
structure Bk (r : List (Nat × Nat)) (sg : List Int) (l : List (List Nat)) (b : Str3) : Prop where
  pos : 0 < b.2.1
  non : b.2.2 = none → l = [] ∧ b.1 = 2 ∧ b.2.1 = 1
  iff : ∀ a h : Nat, a * b.1 ≤ h * b.2.1 ↔ (2 * a ≤ h ∧ ∀ x ∈ l, x.length * a ≤ few r sg x * h)
theorem Bk.step {r : List (Nat × Nat)} {sg : List Int} {l : List (List Nat)} {b : Str3} (B : Bk r sg l b) {x : List Nat} (hx : 0 < few r sg x) : Bk r sg (l ++ [x]) (strainStep r sg b x) := by
  have h2 : 2 * few r sg x ≤ x.length := by
    have := fwd_le r sg x
    unfold few; omega
  have spl : ∀ (P : List Nat → Prop), (∀ y ∈ l ++ [x], P y) ↔ (∀ y ∈ l, P y) ∧ P x := fun P => by
    constructor
    · exact fun q => ⟨fun y hy => q y (List.mem_append_left _ hy), q x (by simp)⟩
    · rintro ⟨q1, q2⟩ y hy
      rcases List.mem_append.mp hy with hy | hy
      · exact q1 y hy
      · rw [List.mem_singleton.mp hy]; exact q2
  unfold strainStep
  show Bk r sg (l ++ [x]) (if b.2.2 = none ∨ b.1 * few r sg x < x.length * b.2.1 then (x.length / Nat.gcd x.length (few r sg x), few r sg x / Nat.gcd x.length (few r sg x), some x) else b)
  by_cases c : b.2.2 = none ∨ b.1 * few r sg x < x.length * b.2.1
  · rw [if_pos c]
    refine ⟨Nat.div_pos (Nat.le_of_dvd hx (Nat.gcd_dvd_right _ _)) (Nat.gcd_pos_of_pos_right _ hx), (fun z => nomatch z), fun a h => ?_⟩
    dsimp only
    rw [gcd_frac hx, spl]
    constructor
    · intro q
      have t : a * b.1 ≤ h * b.2.1 := by
        refine frac_trans hx ?_ q
        rcases c with c | c
        · obtain ⟨_, e1, e2⟩ := B.non c
          rw [e1, e2]; omega
        · omega
      obtain ⟨t1, t2⟩ := (B.iff a h).mp t
      exact ⟨t1, t2, by rw [Nat.mul_comm, Nat.mul_comm (few r sg x)]; exact q⟩
    · rintro ⟨_, _, q⟩
      rw [Nat.mul_comm, Nat.mul_comm h]; exact q
  · rw [if_neg c]
    refine ⟨B.pos, fun z => (c (.inl z)).elim, fun a h => ?_⟩
    rw [spl, B.iff]
    constructor
    · rintro ⟨t1, t2⟩
      refine ⟨t1, t2, ?_⟩
      have := frac_trans (a := a) (h := h) (x := x.length) (y := few r sg x) B.pos (Nat.le_of_not_lt fun z => c (.inr z)) ((B.iff a h).mpr ⟨t1, t2⟩)
      rw [Nat.mul_comm, Nat.mul_comm (few r sg x)]; exact this
    · rintro ⟨t1, t2, _⟩; exact ⟨t1, t2⟩
theorem Bk.all {r : List (Nat × Nat)} {sg : List Int} : ∀ (l l0 : List (List Nat)) (b : Str3), Bk r sg l0 b → (∀ x ∈ l, 0 < few r sg x) → Bk r sg (l0 ++ l) (l.foldl (strainStep r sg) b)
  | [], l0, b, B, _ => by rw [List.append_nil]; exact B
  | x :: l, l0, b, B, h => by
    have := Bk.all l (l0 ++ [x]) _ (B.step (h x List.mem_cons_self)) fun y hy => h y (List.mem_cons_of_mem _ hy)
    rw [List.append_assoc] at this
    exact this
theorem few_pos {n : Nat} {r : List (Nat × Nat)} (wo : WebOk n r) {sg : List Int} (hs : sg ∈ ringlessSigns n r) {x : List Nat} (hx : x ∈ rawRings n r) : 0 < few r sg x := by
  obtain ⟨so, hh⟩ := ringless_mem.mp hs
  obtain ⟨p, hp⟩ := (heights_iff wo).mp hh
  have R := raw_sound wo x hx
  have le := fwd_le r sg x
  have F := fwd_sum r sg x
  have tel := rnd_tel p x
  have ge := R.ge
  have h7 : ∃ N : Int, ∀ q ∈ rnd x, p q.2 - p q.1 ≤ N ∧ -N ≤ p q.2 - p q.1 := by
    generalize rnd x = l
    induction l with
    | nil => exact ⟨0, fun q hq => nomatch hq⟩
    | cons q l ih =>
      obtain ⟨N, hN⟩ := ih
      refine ⟨max N (max (p q.2 - p q.1) (-(p q.2 - p q.1))), fun z hz => ?_⟩
      rcases List.mem_cons.mp hz with rfl | hz
      · omega
      · have := hN z hz; omega
  have one : ∀ q ∈ rnd x, vl (arrowsOf r sg) q = 1 ∧ 1 ≤ p q.2 - p q.1 ∨ vl (arrowsOf r sg) q = 0 ∧ p q.2 - p q.1 ≤ -1 := fun q hq => by
    have o := arrow_one wo so (R.adj q hq)
    unfold vl at o ⊢
    by_cases c : q ∈ arrowsOf r sg
    · have := hp q c; exact .inl ⟨if_pos c, by omega⟩
    · by_cases d : (q.2, q.1) ∈ arrowsOf r sg
      · have := hp _ d; dsimp only at this; exact .inr ⟨if_neg c, by omega⟩
      · rw [if_neg d, if_neg c] at o; omega
  obtain ⟨N, hN⟩ := h7
  have lo : isum ((rnd x).map fun q => p q.2 - p q.1) ≤ isum ((rnd x).map fun q => (N + 1) * vl (arrowsOf r sg) q + (-1)) := isum_le _ fun q hq => by
    have := hN q hq
    rcases one q hq with ⟨e, h⟩ | ⟨e, h⟩ <;> rw [e] <;> omega
  have hi : isum ((rnd x).map fun q => (N + 1) * vl (arrowsOf r sg) q + (-N)) ≤ isum ((rnd x).map fun q => p q.2 - p q.1) := isum_le _ fun q hq => by
    have := hN q hq
    rcases one q hq with ⟨e, h⟩ | ⟨e, h⟩ <;> rw [e] <;> omega
  rw [isum_lin, rnd_len, ← F, tel] at lo
  rw [isum_lin, rnd_len, ← F, tel] at hi
  have f1 : fwd r sg x ≠ 0 := fun z => by rw [z] at lo; omega
  have f2 : fwd r sg x ≠ x.length := fun z => by
    rw [z] at hi
    have : (N + 1) * (x.length : Int) + -N * (x.length : Int) = x.length := by grind
    omega
  unfold few
  omega
theorem strain_iff {n : Nat} {r : List (Nat × Nat)} {rings : List (List Nat)} (wo : WebOk n r) (hrg : ∀ x, x ∈ rings ↔ x ∈ rawRings n r) (hne : r ≠ []) {sg : List Int} (hs : sg ∈ ringlessSigns n r) : 0 < (strainOf r rings sg).2.1 ∧ ∀ h a : Nat, 1 ≤ a →
    (Fe r sg h a ↔ a * (strainOf r rings sg).1 ≤ h * (strainOf r rings sg).2.1) := by
  have B : Bk r sg ([] ++ rings) (strainOf r rings sg) := by
    unfold strainOf
    rw [if_neg hne]
    exact Bk.all rings [] _ ⟨by decide, fun _ => ⟨rfl, rfl, rfl⟩, fun a h => by
      constructor
      · intro q; exact ⟨by dsimp only at q; omega, fun x hx => nomatch hx⟩
      · rintro ⟨q, _⟩; dsimp only; omega⟩ fun x hx => few_pos wo hs ((hrg x).mp hx)
  rw [List.nil_append] at B
  exact ⟨B.pos, fun h a ha => by rw [fe_iff wo hrg (ringless_mem.mp hs).1 hne h a ha, B.iff]⟩
theorem tby_fact {n : Nat} {r : List (Nat × Nat)} {rings : List (List Nat)} (wo : WebOk n r) (hrg : ∀ x, x ∈ rings ↔ x ∈ rawRings n r) (hne : r ≠ []) {sg : List Int} (hs : sg ∈ ringlessSigns n r) (h a : Nat) (ha : 1 ≤ a) :
    (timesBy n r sg h a).isSome = true ↔ a * (strainOf r rings sg).1 ≤ h * (strainOf r rings sg).2.1 := by
  rw [times_iff wo, (strain_iff wo hrg hne hs).2 h a ha]
/-! ### the least clock -/
theorem least_some {r : List (Nat × Nat)} {rings : List (List Nat)} : ∀ (l : List (List Int)) (b : Ls3), (b.isSome = true ∨ l ≠ []) → (l.foldl (leastStep r rings) b).isSome = true
  | [], b, h => h.elim id fun z => absurd rfl z
  | sg :: l, b, h => least_some l _ (.inl (by unfold leastStep; split <;> first | rfl | (split <;> rfl)))
theorem least_iff {r : List (Nat × Nat)} {rings : List (List Nat)} : ∀ (l l0 : List (List Int)) (b : Ls3), (∀ sg ∈ l, 0 < (strainOf r rings sg).2.1) → (b = none → l0 = []) → (∀ x y s, b = some (x, y, s) → 0 < y ∧ ∀ a h : Nat, a * x ≤ h * y ↔ ∃ sg ∈ l0, a * (strainOf r rings sg).1 ≤ h * (strainOf r rings sg).2.1) →
    ∀ x y s, l.foldl (leastStep r rings) b = some (x, y, s) → 0 < y ∧ ∀ a h : Nat, a * x ≤ h * y ↔ ∃ sg ∈ l0 ++ l, a * (strainOf r rings sg).1 ≤ h * (strainOf r rings sg).2.1
  | [], l0, b, _, _, hb, x, y, s, e => by rw [List.append_nil]; exact hb x y s e
  | sg :: l, l0, b, hp, hn, hb, x, y, s, e => by
    have hsg := hp sg List.mem_cons_self
    have mem : ∀ (P : List Int → Prop), (∃ g ∈ l0 ++ [sg], P g) ↔ (∃ g ∈ l0, P g) ∨ P sg := fun P => by
      constructor
      · rintro ⟨g, hg, q⟩
        rcases List.mem_append.mp hg with hg | hg
        · exact .inl ⟨g, hg, q⟩
        · rw [List.mem_singleton.mp hg] at q; exact .inr q
      · rintro (⟨g, hg, q⟩ | q)
        · exact ⟨g, List.mem_append_left _ hg, q⟩
        · exact ⟨sg, by simp, q⟩
    have := least_iff l (l0 ++ [sg]) (leastStep r rings b sg) (fun g hg => hp g (List.mem_cons_of_mem _ hg)) (fun z => by
      unfold leastStep at z
      split at z
      · cases z
      · split at z <;> cases z) (fun x' y' s' e' => by
      unfold leastStep at e'
      cases b with
      | none =>
        cases e'
        refine ⟨hsg, fun a h => ?_⟩
        rw [mem, hn rfl]
        constructor
        · exact .inr
        · rintro (⟨g, hg, _⟩ | q)
          · cases hg
          · exact q
      | some t =>
        obtain ⟨x0, y0, s0⟩ := t
        obtain ⟨hy, hi⟩ := hb x0 y0 s0 rfl
        dsimp only at e'
        split at e'
        · rename_i c
          cases e'
          refine ⟨hsg, fun a h => ?_⟩
          rw [mem, ← hi a h]
          constructor
          · exact .inr
          · rintro (q | q)
            · exact frac_trans hy (Nat.le_of_lt c) q
            · exact q
        · rename_i c
          cases e'
          refine ⟨hy, fun a h => ?_⟩
          rw [mem, ← hi a h]
          constructor
          · exact .inl
          · rintro (q | q)
            · exact q
            · exact frac_trans hsg (Nat.le_of_not_lt c) q) x y s e
    rw [List.append_assoc] at this
    exact this
theorem mod_far {h a u v : Int} (ha : 1 ≤ a) (h1 : a ≤ v - u) (h2 : v - u ≤ h - a) : a ≤ ab (v % h - u % h) ∧ ab (v % h - u % h) ≤ h - a := by
  have hp : 0 < h := by omega
  have b1 := Int.emod_nonneg u (by omega : h ≠ 0)
  have b2 := Int.emod_lt_of_pos u hp
  have b3 := Int.emod_nonneg v (by omega : h ≠ 0)
  have b4 := Int.emod_lt_of_pos v hp
  have e1 := Int.mul_ediv_add_emod u h
  have e2 := Int.mul_ediv_add_emod v h
  generalize u % h = α at *
  generalize v % h = β at *
  have e3 : h * (v / h - u / h) = v - u - (β - α) := by rw [Int.mul_sub]; omega
  generalize v / h - u / h = m at e3
  have hm : m = 0 ∨ m = 1 := by
    by_cases c1 : m ≤ -1
    · have := Int.mul_le_mul_of_nonneg_left c1 (by omega : 0 ≤ h); omega
    · by_cases c2 : 2 ≤ m
      · have := Int.mul_le_mul_of_nonneg_left c2 (by omega : 0 ≤ h); omega
      · omega
  unfold ab
  rcases hm with rfl | rfl
  · split <;> omega
  · split <;> omega
theorem clock_iff {n : Nat} {r : List (Nat × Nat)} (wo : WebOk n r) {h a : Nat} (ha : 1 ≤ a) (hah : a ≤ h) : (clockOf n r h a).isSome = true ↔ ∃ sg ∈ ringlessSigns n r, Fe r sg h a := by
  constructor
  · intro q
    obtain ⟨ts, e⟩ := Option.isSome_iff_exists.mp q
    obtain ⟨h1, h2, h3⟩ := clock_some wo e
    have ne : ∀ p ∈ r, gt ts p.1 ≠ gt ts p.2 := fun p hp z => by
      have := (h3 p hp).1
      rw [z] at this
      unfold ab at this
      split at this <;> omega
    refine ⟨signsBy r ts, signsBy_ringless wo ne, gt ts, fun q hq => ?_⟩
    obtain ⟨m, lt⟩ := signsBy_up ne q hq
    rcases m with m | m
    · have := h3 _ m
      unfold Awy ab at this
      split at this <;> omega
    · have := h3 _ m
      unfold Awy ab at this
      dsimp only at this
      split at this <;> omega
  · rintro ⟨sg, hs, p, hp⟩
    obtain ⟨so, _⟩ := ringless_mem.mp hs
    have eg : ∀ i, i < n → gt ((List.range n).map fun i => p i % (h : Int)) i = p i % (h : Int) := fun i hi => by
      unfold gt
      rw [List.getD_eq_getElem?_getD, List.getElem?_map, List.getElem?_range hi]; rfl
    refine clock_ex wo (ts := (List.range n).map fun i => p i % (h : Int)) ⟨by simp, fun c hc => ?_, fun t ht => ?_⟩
    · obtain ⟨i, _, rfl⟩ := List.mem_map.mp hc
      exact ⟨Int.emod_nonneg _ (by omega), Int.emod_lt_of_pos _ (by omega)⟩
    · have lt := wo.lt t ht
      show Awy _ _ _ _
      rw [eg _ (by omega), eg _ (by omega)]
      obtain ⟨i, hi⟩ := List.mem_iff_getElem?.mp ht
      have hm := (arrows_mem so.len).mpr ⟨i, t, hi, rfl⟩
      by_cases c : gt sg i = 1
      · rw [if_pos c] at hm
        have := hp _ hm
        exact mod_far (by omega) this.1 this.2
      · rw [if_neg c] at hm
        have := hp _ hm
        dsimp only at this
        have q := mod_far (h := h) (a := a) (by omega) this.1 this.2
        rw [ab_sym] at q
        exact q
theorem low_fact {n : Nat} {r : List (Nat × Nat)} {rings : List (List Nat)} (wo : WebOk n r) (hrg : ∀ x, x ∈ rings ↔ x ∈ rawRings n r) : ∃ x y s, leastStrain r rings (ringlessSigns n r) = some (x, y, s) ∧ (r ≠ [] → ∀ h a : Nat, 1 ≤ a → a ≤ h → h ≤ 12 → ((clockOf n r h a).isSome = true ↔ a * x ≤ h * y)) := by
  have hs := least_some (r := r) (rings := rings) (ringlessSigns n r) none (.inr (ringless_ne wo))
  obtain ⟨⟨x, y, s⟩, e⟩ := Option.isSome_iff_exists.mp hs
  refine ⟨x, y, s, e, fun hne h a ha hah _ => ?_⟩
  have q := (least_iff (ringlessSigns n r) [] none (fun sg hsg => (strain_iff wo hrg hne hsg).1) (fun _ => rfl) (fun _ _ _ z => by cases z) x y s e).2 a h
  rw [List.nil_append] at q
  rw [q, clock_iff wo ha hah]
  constructor
  · rintro ⟨sg, h1, h2⟩; exact ⟨sg, h1, ((strain_iff wo hrg hne h1).2 h a ha).mp h2⟩
  · rintro ⟨sg, h1, h2⟩; exact ⟨sg, h1, ((strain_iff wo hrg hne h1).2 h a ha).mpr h2⟩
end TS
namespace TS
/-! ### turns -/
theorem bound_of (p : Nat → Int) : ∀ n, ∃ N : Int, ∀ v, v < n → p v ≤ N ∧ -N ≤ p v
  | 0 => ⟨0, fun v h => by omega⟩
  | n + 1 => by
    obtain ⟨N, hN⟩ := bound_of p n
    refine ⟨max N (max (p n) (-(p n))), fun v hv => ?_⟩
    by_cases e : v = n
    · subst e; omega
    · have := hN v (by omega); omega
theorem turned_gt {r : List (Nat × Nat)} {sg : List Int} (hl : sg.length = r.length) (p : Nat) {i : Nat} {t : Nat × Nat} (h : r[i]? = some t) : gt (turnedAt r sg p) i = if p = t.1 ∨ p = t.2 then - gt sg i else gt sg i := by
  have hi : i < sg.length := by have := (List.getElem?_eq_some_iff.mp h).1; omega
  unfold turnedAt
  have : gt (List.zipWith (fun t s => if p = t.1 ∨ p = t.2 then -s else s) r sg) i = if p = t.1 ∨ p = t.2 then - gt sg i else gt sg i := by
    unfold gt
    rw [List.getD_eq_getElem?_getD, List.getElem?_zipWith, h, List.getElem?_eq_getElem hi, List.getD_eq_getElem?_getD, List.getElem?_eq_getElem hi]; rfl
  exact this
theorem touch {P : Prop} [Decidable P] {q t : Nat × Nat} (e : q = if P then t else (t.2, t.1)) (p : Nat) : (p = q.1 ∨ p = q.2) ↔ (p = t.1 ∨ p = t.2) := by
  subst e
  split
  · exact Iff.rfl
  · exact Or.comm
theorem turned_arrows {r : List (Nat × Nat)} {sg : List Int} (so : SgOk r sg) (p : Nat) {q : Nat × Nat} : q ∈ arrowsOf r (turnedAt r sg p) ↔ if p = q.1 ∨ p = q.2 then (q.2, q.1) ∈ arrowsOf r sg else q ∈ arrowsOf r sg := by
  have so' := turned_ok so p
  have swp : ∀ {q t : Nat × Nat}, q = (t.2, t.1) ↔ (q.2, q.1) = t := fun {q t} => by
    constructor
    · rintro rfl; rfl
    · rintro rfl; rfl
  have pm : ∀ i t, r[i]? = some t → gt sg i = 1 ∨ gt sg i = -1 := fun i t e => so.pm _ (gt_mem (by have := (List.getElem?_eq_some_iff.mp e).1; have := so.len; omega))
  by_cases c : p = q.1 ∨ p = q.2
  · rw [if_pos c, arrows_mem so'.len, arrows_mem so.len]
    constructor
    · rintro ⟨i, t, e1, e2⟩
      refine ⟨i, t, e1, ?_⟩
      rw [turned_gt so.len p e1] at e2
      rw [if_pos ((touch e2 p).mp c)] at e2
      rcases pm i t e1 with q1 | q1
      · rw [q1, if_neg (by decide)] at e2
        rw [q1, if_pos rfl]; exact swp.mp e2
      · rw [q1, if_pos (by decide)] at e2
        rw [q1, if_neg (by decide), e2]
    · rintro ⟨i, t, e1, e2⟩
      refine ⟨i, t, e1, ?_⟩
      rw [turned_gt so.len p e1]
      rw [if_pos ((touch e2 p).mp c.symm)]
      rcases pm i t e1 with q1 | q1
      · rw [q1, if_pos rfl] at e2
        rw [q1, if_neg (by decide)]; exact swp.mpr e2
      · rw [q1, if_neg (by decide)] at e2
        rw [q1, if_pos (by decide)]
        rw [Prod.ext_iff] at e2 ⊢
        exact ⟨e2.2, e2.1⟩
  · rw [if_neg c, arrows_mem so'.len, arrows_mem so.len]
    constructor
    · rintro ⟨i, t, e1, e2⟩
      refine ⟨i, t, e1, ?_⟩
      rw [turned_gt so.len p e1] at e2
      rw [if_neg fun z => c ((touch e2 p).mpr z)] at e2; exact e2
    · rintro ⟨i, t, e1, e2⟩
      refine ⟨i, t, e1, ?_⟩
      rw [turned_gt so.len p e1, if_neg fun z => c ((touch e2 p).mpr z)]; exact e2
theorem can_iff {r : List (Nat × Nat)} {sg : List Int} {p : Nat} : canTurn r sg p = true ↔ (∀ q ∈ arrowsOf r sg, q.1 ≠ p) ∨ (∀ q ∈ arrowsOf r sg, q.2 ≠ p) := by
  unfold canTurn
  rw [Bool.or_eq_true, Bool.not_eq_true', Bool.not_eq_true', ← Bool.not_eq_true, ← Bool.not_eq_true, List.contains_iff_mem, List.contains_iff_mem, List.mem_map, List.mem_map]
  constructor
  · rintro (h | h)
    · exact .inl fun q hq e => h ⟨q, hq, e⟩
    · exact .inr fun q hq e => h ⟨q, hq, e⟩
  · rintro (h | h)
    · exact .inl fun ⟨q, hq, e⟩ => h q hq e
    · exact .inr fun ⟨q, hq, e⟩ => h q hq e
def dl (p : Nat) (v : Nat) : Int := if v = p then 1 else 0
/-- what a turn does to the arrows -/
theorem turn_vl {n : Nat} {r : List (Nat × Nat)} {sg : List Int} (wo : WebOk n r) (so : SgOk r sg) {p u v : Nat} (h : Adj r u v) :
    ((∀ q ∈ arrowsOf r sg, q.2 ≠ p) → vl (arrowsOf r (turnedAt r sg p)) (u, v) = vl (arrowsOf r sg) (u, v) + (dl p v - dl p u)) ∧
    ((∀ q ∈ arrowsOf r sg, q.1 ≠ p) → vl (arrowsOf r (turnedAt r sg p)) (u, v) = vl (arrowsOf r sg) (u, v) - (dl p v - dl p u)) := by
  have ne : u ≠ v := fun e => by subst e; rcases h with h | h <;> have := (wo.lt _ h).1 <;> dsimp only at this <;> omega
  have o := arrow_one wo so h
  have t : vl (arrowsOf r (turnedAt r sg p)) (u, v) = if p = u ∨ p = v then vl (arrowsOf r sg) (v, u) else vl (arrowsOf r sg) (u, v) := by
    have := turned_arrows so p (q := (u, v))
    unfold vl
    by_cases c : p = u ∨ p = v
    · rw [if_pos c]
      rw [if_pos (show p = (u, v).1 ∨ p = (u, v).2 from c)] at this
      by_cases d : (v, u) ∈ arrowsOf r sg
      · rw [if_pos (this.mpr d), if_pos d]
      · rw [if_neg fun z => d (this.mp z), if_neg d]
    · rw [if_neg c]
      rw [if_neg (show ¬ (p = (u, v).1 ∨ p = (u, v).2) from c)] at this
      by_cases d : (u, v) ∈ arrowsOf r sg
      · rw [if_pos (this.mpr d), if_pos d]
      · rw [if_neg fun z => d (this.mp z), if_neg d]
  rw [t]
  unfold dl
  constructor
  · intro hs
    by_cases c : p = u
    · have z : vl (arrowsOf r sg) (v, u) = 0 := if_neg fun m => hs _ m c.symm
      rw [if_pos (.inl c), if_neg (by omega), if_pos c.symm]; omega
    · by_cases d : p = v
      · have z : vl (arrowsOf r sg) (u, v) = 0 := if_neg fun m => hs _ m d.symm
        rw [if_pos (.inr d), if_pos d.symm, if_neg (by omega)]; omega
      · rw [if_neg (by omega), if_neg (by omega), if_neg (by omega)]; omega
  · intro hs
    by_cases c : p = u
    · have z : vl (arrowsOf r sg) (u, v) = 0 := if_neg fun m => hs _ m c.symm
      rw [if_pos (.inl c), if_neg (by omega), if_pos c.symm]; omega
    · by_cases d : p = v
      · have z : vl (arrowsOf r sg) (v, u) = 0 := if_neg fun m => hs _ m d.symm
        rw [if_pos (.inr d), if_pos d.symm, if_neg (by omega)]; omega
      · rw [if_neg (by omega), if_neg (by omega), if_neg (by omega)]; omega
theorem turn_fwd {n : Nat} {r : List (Nat × Nat)} {sg : List Int} (wo : WebOk n r) (so : SgOk r sg) {p : Nat} (hc : canTurn r sg p = true) {x : List Nat} (R : Ring n r x) : fwd r (turnedAt r sg p) x = fwd r sg x := by
  have tel := rnd_tel (dl p) x
  have e : (fwd r (turnedAt r sg p) x : Int) = fwd r sg x := by
    rw [fwd_sum, fwd_sum]
    rcases can_iff.mp hc with h | h
    · rw [isum_congr (g := fun q => vl (arrowsOf r sg) q + (-1 * (dl p q.2 - dl p q.1) + 0)) (rnd x) fun q hq => by have this : vl _ q = vl _ q - _ := (turn_vl wo so (R.adj q hq)).2 h; omega, isum_add, isum_lin, tel]
      omega
    · rw [isum_congr (g := fun q => vl (arrowsOf r sg) q + (dl p q.2 - dl p q.1)) (rnd x) fun q hq => (turn_vl wo so (R.adj q hq)).1 h, isum_add, tel]
      omega
  omega
theorem turn_ringless {n : Nat} {r : List (Nat × Nat)} {sg : List Int} (wo : WebOk n r) (hs : sg ∈ ringlessSigns n r) {p : Nat} (hc : canTurn r sg p = true) : turnedAt r sg p ∈ ringlessSigns n r := by
  obtain ⟨so, hh⟩ := ringless_mem.mp hs
  obtain ⟨P, hP⟩ := (heights_iff wo).mp hh
  obtain ⟨N, hN⟩ := bound_of P n
  have lt : ∀ q ∈ arrowsOf r sg, q.1 < n ∧ q.2 < n := arrows_lt wo.lt
  refine ringless_mem.mpr ⟨turned_ok so p, (heights_iff wo).mpr ?_⟩
  rcases can_iff.mp hc with h | h
  · -- all arrows at p lead to it
    refine ⟨fun v => if v = p then -N - 1 else P v, fun q hq => ?_⟩
    have t := (turned_arrows so p).mp hq
    show (if q.1 = p then -N - 1 else P q.1) + 1 ≤ (if q.2 = p then -N - 1 else P q.2)
    by_cases c : p = q.1 ∨ p = q.2
    · rw [if_pos c] at t
      have n2 := h _ t
      dsimp only at n2
      have l := lt _ t
      dsimp only at l
      rw [if_neg n2, if_pos (by omega)]
      have := hN q.2 l.1; omega
    · rw [if_neg c] at t
      rw [if_neg (by omega), if_neg (by omega)]; exact hP q t
  · refine ⟨fun v => if v = p then N + 1 else P v, fun q hq => ?_⟩
    have t := (turned_arrows so p).mp hq
    show (if q.1 = p then N + 1 else P q.1) + 1 ≤ (if q.2 = p then N + 1 else P q.2)
    by_cases c : p = q.1 ∨ p = q.2
    · rw [if_pos c] at t
      have n2 := h _ t
      dsimp only at n2
      have l := lt _ t
      dsimp only at l
      rw [if_neg n2, if_pos (by omega)]
      have := hN q.1 l.2; omega
    · rw [if_neg c] at t
      rw [if_neg (by omega), if_neg (by omega)]; exact hP q t
theorem Steps.snoc {n : Nat} {r : List (Nat × Nat)} {rings : List (List Nat)} {a b : List Int} {ps : List Nat} (S : Steps n r rings a ps b) : ∀ {p : Nat}, p < n → canTurn r b p = true → (∃ h, heightsOf n r (turnedAt r b p) = some h) → (∀ x ∈ rings, fwd r (turnedAt r b p) x = fwd r b x) → Steps n r rings a (ps ++ [p]) (turnedAt r b p) := by
  induction S with
  | nil a => exact fun h1 h2 h3 h4 => .cons h1 h2 h3 h4 (.nil _)
  | cons g1 g2 g3 g4 _ ih => exact fun h1 h2 h3 h4 => .cons g1 g2 g3 g4 (ih h1 h2 h3 h4)
theorem Steps.same {n : Nat} {r : List (Nat × Nat)} {rings : List (List Nat)} {a b : List Int} {ps : List Nat} (S : Steps n r rings a ps b) : ∀ x ∈ rings, fwd r b x = fwd r a x := by
  induction S with
  | nil a => exact fun _ _ => rfl
  | cons _ _ _ g4 _ ih => exact fun x hx => (ih x hx).trans (g4 x hx)
section
variable {n : Nat} {r : List (Nat × Nat)} {rings : List (List Nat)} {a : List Int}
/-! the search finds rows of turns -/
def Good (n : Nat) (r : List (Nat × Nat)) (rings : List (List Nat)) (a : List Int) (f : Fnd) : Prop := ∀ q ∈ f, Steps n r rings a q.2 q.1 ∧ q.1 ∈ ringlessSigns n r
theorem look_mem {f : Fnd} {k : List Int} {w : List Nat} (h : look f k = some w) : (k, w) ∈ f := by
  unfold look at h
  obtain ⟨q, hq, rfl⟩ := Option.map_eq_some_iff.mp h
  have h1 := List.find?_some hq
  have h2 := List.mem_of_find?_eq_some hq
  have h1 : q.1 = k := by simpa using h1
  rw [← h1]; exact h2
theorem good_place (wo : WebOk n r) (hrg : ∀ x, x ∈ rings ↔ x ∈ rawRings n r) {one : List Int} {st : Fnd × List (List Int)} (g : Good n r rings a st.1) (ho : one ∈ st.1.map (·.1)) {p : Nat} (hp : p < n) : Good n r rings a (placeStep r one st p).1 := by
  unfold placeStep
  split
  · rename_i hc
    split
    · exact g
    · intro q hq
      rcases List.mem_append.mp hq with hq | hq
      · exact g q hq
      · rw [List.mem_singleton.mp hq]
        obtain ⟨w, hw⟩ := Option.isSome_iff_exists.mp (look_some.mp ho)
        obtain ⟨s, hs⟩ := g _ (look_mem hw)
        dsimp only at s hs
        have tr := turn_ringless wo hs hc
        rw [hw]
        exact ⟨s.snoc hp hc (ringless_mem.mp tr).2 fun x hx => turn_fwd wo (ringless_mem.mp hs).1 hc (raw_sound wo x ((hrg x).mp hx)), tr⟩
  · exact g
/-- what a layer does -/
structure Ly (r : List (Nat × Nat)) (f0 : Fnd) (st : Fnd × List (List Int)) : Prop where
  sub : ∀ k ∈ f0.map (·.1), k ∈ st.1.map (·.1)
  new : ∀ k ∈ st.1.map (·.1), k ∈ f0.map (·.1) ∨ k ∈ st.2
theorem place_sub (one : List Int) (st : Fnd × List (List Int)) (p : Nat) : ∀ k ∈ st.1.map (·.1), k ∈ (placeStep r one st p).1.map (·.1) := by
  intro k hk
  unfold placeStep
  split
  · split
    · exact hk
    · rw [List.map_append]; exact List.mem_append_left _ hk
  · exact hk
theorem place_has (one : List Int) (st : Fnd × List (List Int)) (p : Nat) (hc : canTurn r one p = true) : turnedAt r one p ∈ (placeStep r one st p).1.map (·.1) := by
  unfold placeStep
  rw [if_pos hc]
  split
  · rename_i h; exact look_some.mpr h
  · rw [List.map_append]; exact List.mem_append_right _ (by simp)
theorem Ly.place {f0 : Fnd} {st : Fnd × List (List Int)} (L : Ly r f0 st) (one : List Int) (p : Nat) : Ly r f0 (placeStep r one st p) := by
  refine ⟨fun k hk => place_sub one st p k (L.sub k hk), fun k hk => ?_⟩
  unfold placeStep at hk ⊢
  split
  · rename_i hc
    rw [if_pos hc] at hk
    split
    · rename_i h; rw [if_pos h] at hk; exact L.new k hk
    · rename_i h
      rw [if_neg h, List.map_append] at hk
      rcases List.mem_append.mp hk with hk | hk
      · exact (L.new k hk).imp id fun z => List.mem_append_left _ z
      · exact .inr (List.mem_append_right _ (by simpa using hk))
  · rename_i hc
    rw [if_neg hc] at hk
    exact L.new k hk
theorem places_all {one : List Int} (wo : WebOk n r) (hrg : ∀ x, x ∈ rings ↔ x ∈ rawRings n r) {f0 : Fnd} : ∀ (l : List Nat) (st : Fnd × List (List Int)), (∀ p ∈ l, p < n) → Ly r f0 st → Good n r rings a st.1 → one ∈ st.1.map (·.1) →
    Ly r f0 (l.foldl (placeStep r one) st) ∧ Good n r rings a (l.foldl (placeStep r one) st).1 ∧ (∀ k ∈ st.1.map (·.1), k ∈ (l.foldl (placeStep r one) st).1.map (·.1)) ∧ ∀ p ∈ l, canTurn r one p = true → turnedAt r one p ∈ (l.foldl (placeStep r one) st).1.map (·.1)
  | [], st, _, L, g, _ => ⟨L, g, fun _ h => h, fun _ h => nomatch h⟩
  | p :: l, st, hl, L, g, ho => by
    obtain ⟨h1, h2, h3, h4⟩ := places_all wo hrg l (placeStep r one st p) (fun q hq => hl q (List.mem_cons_of_mem _ hq)) (L.place one p) (good_place wo hrg g ho (hl p List.mem_cons_self)) (place_sub one st p _ ho)
    refine ⟨h1, h2, fun k hk => h3 k (place_sub one st p k hk), fun q hq hc => ?_⟩
    rcases List.mem_cons.mp hq with rfl | hq
    · exact h3 _ (place_has one st q hc)
    · exact h4 q hq hc
def Cl (n : Nat) (r : List (Nat × Nat)) (f : Fnd) (k : List Int) : Prop := ∀ p, p < n → canTurn r k p = true → turnedAt r k p ∈ f.map (·.1)
theorem ones_all (wo : WebOk n r) (hrg : ∀ x, x ∈ rings ↔ x ∈ rawRings n r) {f0 : Fnd} : ∀ (l : List (List Int)) (st : Fnd × List (List Int)), (∀ k ∈ l, k ∈ st.1.map (·.1)) → Ly r f0 st → Good n r rings a st.1 →
    Ly r f0 (l.foldl (oneStep n r) st) ∧ Good n r rings a (l.foldl (oneStep n r) st).1 ∧ (∀ k ∈ st.1.map (·.1), k ∈ (l.foldl (oneStep n r) st).1.map (·.1)) ∧ ∀ k ∈ l, Cl n r (l.foldl (oneStep n r) st).1 k
  | [], st, _, L, g => ⟨L, g, fun _ h => h, fun _ h => nomatch h⟩
  | one :: l, st, hl, L, g => by
    obtain ⟨a1, a2, a3, a4⟩ := places_all (a := a) (one := one) wo hrg (List.range n) st (fun p hp => List.mem_range.mp hp) L g (hl one List.mem_cons_self)
    obtain ⟨h1, h2, h3, h4⟩ := ones_all wo hrg l (oneStep n r st one) (fun k hk => a3 k (hl k (List.mem_cons_of_mem _ hk))) a1 a2
    refine ⟨h1, h2, fun k hk => h3 k (a3 k hk), fun k hk => ?_⟩
    rcases List.mem_cons.mp hk with rfl | hk
    · exact fun p hp hc => h3 _ (a4 p (List.mem_range.mpr hp) hc)
    · exact h4 k hk
theorem bfs_all (wo : WebOk n r) (hrg : ∀ x, x ∈ rings ↔ x ∈ rawRings n r) : ∀ (k : Nat) (f : Fnd) (wait : List (List Int)), BF r f (f, []) → (∀ q ∈ wait, q ∈ f.map (·.1)) → Good n r rings a f → (∀ q ∈ f.map (·.1), q ∈ wait ∨ Cl n r f q) → 1026 ≤ k + f.length →
    Good n r rings a (bfs n r k f wait) ∧ (∀ q ∈ f.map (·.1), q ∈ (bfs n r k f wait).map (·.1)) ∧ ∀ q ∈ (bfs n r k f wait).map (·.1), Cl n r (bfs n r k f wait) q
  | 0, f, wait, B, _, _, _, hk => by have := keys_le (f := f) wo.len B.nd B.sg; omega
  | k + 1, f, [], B, _, g, hw, _ => ⟨g, fun _ h => h, fun q hq => (hw q hq).elim (fun z => nomatch z) id⟩
  | k + 1, f, w :: ws, B, hin, g, hw, hk => by
    have L0 : Ly r f (f, []) := ⟨fun _ h => h, fun _ h => .inl h⟩
    obtain ⟨h1, h2, h3, h4⟩ := ones_all (a := a) wo hrg (w :: ws) (f, []) hin L0 g
    have hB : BF r f (layer n r f (w :: ws)) := BF.ones (w :: ws) (f, []) hin B
    change Ly r f (layer n r f (w :: ws)) at h1
    change Good n r rings a (layer n r f (w :: ws)).1 at h2
    change ∀ k ∈ f.map (·.1), k ∈ (layer n r f (w :: ws)).1.map (·.1) at h3
    change ∀ k ∈ w :: ws, Cl n r (layer n r f (w :: ws)).1 k at h4
    have hcl : ∀ q ∈ (layer n r f (w :: ws)).1.map (·.1), q ∈ (layer n r f (w :: ws)).2 ∨ Cl n r (layer n r f (w :: ws)).1 q := fun q hq => by
      rcases h1.new q hq with z | z
      · rcases hw q z with y | y
        · exact .inr (h4 q y)
        · exact .inr fun p hp hc => h3 _ (y p hp hc)
      · exact .inl z
    show Good n r rings a (bfs n r k (layer n r f (w :: ws)).1 (layer n r f (w :: ws)).2) ∧ (∀ q ∈ f.map (·.1), q ∈ (bfs n r k (layer n r f (w :: ws)).1 (layer n r f (w :: ws)).2).map (·.1)) ∧ ∀ q ∈ (bfs n r k (layer n r f (w :: ws)).1 (layer n r f (w :: ws)).2).map (·.1), Cl n r (bfs n r k (layer n r f (w :: ws)).1 (layer n r f (w :: ws)).2) q
    generalize layer n r f (w :: ws) = st at *
    obtain ⟨f', l'⟩ := st
    dsimp only at *
    cases l' with
    | nil =>
      have e : bfs n r k f' [] = f' := by cases k <;> rfl
      rw [e]
      exact ⟨h2, h3, fun q hq => (hcl q hq).elim (fun z => nomatch z) id⟩
    | cons y ys =>
      have hl := hB.len
      dsimp only at hl
      rw [List.length_cons] at hl
      obtain ⟨c1, c2, c3⟩ := bfs_all wo hrg k f' (y :: ys) ⟨hB.nd, hB.sg, fun _ h => h, (fun _ h => nomatch h), rfl, hB.pl⟩ hB.lat h2 hcl (by omega)
      exact ⟨c1, fun q hq => c2 q (h3 q hq), c3⟩
theorem rows_all (wo : WebOk n r) (hrg : ∀ x, x ∈ rings ↔ x ∈ rawRings n r) (ha : a ∈ ringlessSigns n r) : Good n r rings a (rowsFrom n r a) ∧ a ∈ (rowsFrom n r a).map (·.1) ∧ ∀ q ∈ (rowsFrom n r a).map (·.1), Cl n r (rowsFrom n r a) q := by
  obtain ⟨so, _⟩ := ringless_mem.mp ha
  obtain ⟨h1, h2, h3⟩ := bfs_all (a := a) wo hrg 3000 [(a, [])] [a] ⟨by simp, by simpa using so, fun _ h => h, (fun _ h => nomatch h), rfl, by simp⟩ (by simp) (fun q hq => by rw [List.mem_singleton.mp hq]; exact ⟨.nil _, ha⟩) (fun q hq => .inl (by simpa using hq)) (by simp)
  exact ⟨h1, h2 a (by simp), h3⟩
/-! the rings the same: turns lead there -/
theorem signs_same {b : List Int} (soa : SgOk r a) (sob : SgOk r b) (wo : WebOk n r) (h : ∀ u v, Adj r u v → vl (arrowsOf r b) (u, v) = vl (arrowsOf r a) (u, v)) : a = b := by
  refine ext_gt (by rw [soa.len, sob.len]) fun i => ?_
  by_cases hi : i < r.length
  · have e := List.getElem?_eq_getElem hi
    generalize r[i] = t at e
    have lt := wo.lt t (List.mem_of_getElem? e)
    have ad : Adj r t.1 t.2 := .inl (List.mem_of_getElem? e)
    have pa := soa.pm _ (gt_mem (by rw [soa.len]; exact hi : i < a.length))
    have pb := sob.pm _ (gt_mem (by rw [sob.len]; exact hi : i < b.length))
    have one : ∀ {s : List Int}, SgOk r s → (gt s i = 1 → vl (arrowsOf r s) (t.1, t.2) = 1) ∧ (gt s i = -1 → vl (arrowsOf r s) (t.1, t.2) = 0) := fun {s} so => by
      have o := arrow_one wo so ad
      constructor
      · intro z; exact if_pos ((arrows_mem so.len).mpr ⟨i, t, e, by rw [if_pos z]⟩)
      · intro z
        have : vl (arrowsOf r s) (t.2, t.1) = 1 := if_pos ((arrows_mem so.len).mpr ⟨i, t, e, by rw [if_neg (by omega)]⟩)
        omega
    have hv := h t.1 t.2 ad
    have oa := one soa
    have ob := one sob
    rcases pa with pa | pa <;> rcases pb with pb | pb
    · omega
    · rw [oa.1 pa, ob.2 pb] at hv; omega
    · rw [oa.2 pa, ob.1 pb] at hv; omega
    · omega
  · rw [gt_out (by rw [soa.len]; omega), gt_out (by rw [sob.len]; omega)]
theorem sum_dl (g : Nat → Int) (u : Nat) : ∀ n, u < n → sumTo (fun v => g v - dl u v) n = sumTo g n - 1
  | 0, h => by omega
  | n + 1, h => by
    unfold sumTo
    by_cases e : u = n
    · subst e
      have : sumTo (fun v => g v - dl u v) u = sumTo g u := sumTo_congr u fun i hi => by unfold dl; rw [if_neg (by omega)]; omega
      rw [this]; unfold dl; rw [if_pos rfl]; omega
    · rw [sum_dl g u n (by omega)]; unfold dl; rw [if_neg (by omega)]; omega
theorem pretzel (wo : WebOk n r) {b : List Int} (sob : SgOk r b) {f : Fnd} (cl : ∀ q ∈ f.map (·.1), Cl n r f q) : ∀ (N : Nat) (a : List Int) (g : Nat → Int), a ∈ ringlessSigns n r → a ∈ f.map (·.1) → (∀ v, v < n → 0 ≤ g v) →
    (∀ u v, Adj r u v → vl (arrowsOf r b) (u, v) - vl (arrowsOf r a) (u, v) = g v - g u) → sumTo g n ≤ N → b ∈ f.map (·.1) := by
  intro N
  induction N with
  | zero =>
    intro a g ha haf hg hd hN
    have z : ∀ v, v < n → g v = 0 := fun v hv => by
      have := sumTo_ge n v hv hg
      have := hg v hv; omega
    have e : a = b := signs_same (n := n) (ringless_mem.mp ha).1 sob wo fun u v huv => by
      have := hd u v huv
      have : u < n ∧ v < n := by rcases huv with h | h <;> have := wo.lt _ h <;> dsimp only at this <;> omega
      rw [z u this.1, z v this.2] at *; omega
    rw [← e]; exact haf
  | succ N ih =>
    intro a g ha haf hg hd hN
    obtain ⟨soa, h, hh⟩ := ringless_mem.mp ha
    have H := hts_of wo hh
    obtain ⟨M, hM, hmax⟩ := max_of ((List.range n).map g) (by have := wo.pos; intro z; rw [List.map_eq_nil_iff] at z; have := congrArg List.length z; simp at this; omega)
    have hmax' : ∀ v, v < n → g v ≤ M := fun v hv => hmax _ (List.mem_map.mpr ⟨v, List.mem_range.mpr hv, rfl⟩)
    obtain ⟨v0, hv0, e0⟩ := List.mem_map.mp hM
    have hv0 := List.mem_range.mp hv0
    by_cases c : M ≤ 0
    · have z : ∀ v, v < n → g v = 0 := fun v hv => by have := hg v hv; have := hmax' v hv; omega
      have e : a = b := signs_same (n := n) soa sob wo fun u v huv => by
        have := hd u v huv
        have : u < n ∧ v < n := by rcases huv with h | h <;> have := wo.lt _ h <;> dsimp only at this <;> omega
        rw [z u this.1, z v this.2] at *; omega
      rw [← e]; exact haf
    · -- the lowest of the top ones
      obtain ⟨m, hm, hlow⟩ := max_of (((List.range n).filter fun v => decide (g v = M)).map fun v => - gt h v) (by
        intro z
        rw [List.map_eq_nil_iff] at z
        have : v0 ∈ (List.range n).filter fun v => decide (g v = M) := List.mem_filter.mpr ⟨List.mem_range.mpr hv0, decide_eq_true e0⟩
        rw [z] at this; cases this)
      obtain ⟨u, hu, eu⟩ := List.mem_map.mp hm
      obtain ⟨hu1, hu2⟩ := List.mem_filter.mp hu
      have hu1 := List.mem_range.mp hu1
      have hu2 : g u = M := of_decide_eq_true hu2
      have src : ∀ q ∈ arrowsOf r a, q.2 ≠ u := fun q hq e => by
        have lt := arrows_lt wo.lt q hq
        have ad := arrow_adj soa.len hq
        have d := hd q.1 q.2 ad
        have v1 : vl (arrowsOf r a) (q.1, q.2) = 1 := if_pos hq
        have v2 : vl (arrowsOf r b) (q.1, q.2) ≤ 1 := by unfold vl; split <;> omega
        rw [e] at d v1 v2
        have := hmax' q.1 lt.1
        have e1 : g q.1 = M := by omega
        have := hlow (- gt h q.1) (List.mem_map.mpr ⟨q.1, List.mem_filter.mpr ⟨List.mem_range.mpr lt.1, decide_eq_true e1⟩, rfl⟩)
        have up := H.up q hq
        rw [e] at up
        omega
      have hc : canTurn r a u = true := can_iff.mpr (.inr src)
      refine ih (turnedAt r a u) (fun v => g v - dl u v) (turn_ringless wo ha hc) (cl a haf u hu1 hc) (fun v hv => ?_) (fun x y hxy => ?_) ?_
      · have := hg v hv
        show 0 ≤ g v - dl u v
        unfold dl
        by_cases z : v = u
        · rw [if_pos z, z, hu2]; omega
        · rw [if_neg z]; omega
      · rw [(turn_vl wo soa hxy).1 src]
        have := hd x y hxy
        show _ = (g y - dl u y) - (g x - dl u x)
        omega
      · rw [sum_dl g u n hu1]; omega
theorem led_fact (wo : WebOk n r) (hrg : ∀ x, x ∈ rings ↔ x ∈ rawRings n r) (ha : a ∈ ringlessSigns n r) {b : List Int} (hb : b ∈ ringlessSigns n r) :
    (∀ path, look (rowsFrom n r a) b = some path → Steps n r rings a path b) ∧ (look (rowsFrom n r a) b = none ↔ ∃ x ∈ rings, fwd r a x ≠ fwd r b x) := by
  obtain ⟨g, h1, h2⟩ := rows_all wo hrg ha
  have st : ∀ path, look (rowsFrom n r a) b = some path → Steps n r rings a path b := fun path e => (g _ (look_mem e)).1
  obtain ⟨soa, _⟩ := ringless_mem.mp ha
  obtain ⟨sob, _⟩ := ringless_mem.mp hb
  refine ⟨st, fun e => ?_, ?_⟩
  · refine Classical.byContradiction fun no => ?_
    have same : ∀ x ∈ rawRings n r, (fwd r b x : Int) = fwd r a x := fun x hx => by
      have : fwd r a x = fwd r b x := Classical.byContradiction fun z => no ⟨x, (hrg x).mpr hx, z⟩
      omega
    obtain ⟨p, hp⟩ := pot_rings wo (fun q => vl (arrowsOf r b) q + (-1 * vl (arrowsOf r a) q + 0)) (fun u v huv => by
      have := arrow_one wo soa huv
      have := arrow_one wo sob huv
      show _ + _ + (_ + _) ≤ (0 : Int)
      omega) (fun x hx => by
      have R := raw_sound wo x hx
      have := same x hx
      have Fa := fwd_sum r a x
      have Fb := fwd_sum r b x
      have Ba := back_sum wo soa R
      have Bb := back_sum wo sob R
      have s : ∀ l : List (Nat × Nat), isum (l.map fun q => vl (arrowsOf r b) q + (-1 * vl (arrowsOf r a) q + 0)) = isum (l.map (vl (arrowsOf r b))) + (-1 * isum (l.map (vl (arrowsOf r a))) + 0 * l.length) := fun l => by
        rw [isum_add (vl (arrowsOf r b)) (fun q => -1 * vl (arrowsOf r a) q + 0), isum_lin]
      rw [s, s]
      constructor <;> omega)
    obtain ⟨N, hN⟩ := bound_of p n
    have key := pretzel wo sob h2 (sumTo (fun v => p v + N) n).toNat a (fun v => p v + N) ha h1 (fun v hv => by have := hN v hv; show 0 ≤ p v + N; omega) (fun u v huv => by
      have a1 := hp u v huv
      have a2 := hp v u huv.symm
      have := arrow_one wo soa huv
      have := arrow_one wo sob huv
      show _ = (p v + N) - (p u + N)
      omega) (by omega)
    have := look_some.mp key
    rw [e] at this; cases this
  · rintro ⟨x, hx, ne⟩
    cases e : look (rowsFrom n r a) b with
    | none => rfl
    | some path => exact absurd ((st path e).same x hx).symm ne
end
end TS
namespace TS
theorem facts_all {n : Nat} {r : List (Nat × Nat)} {rings : List (List Nat)} (wo : WebOk n r) (hrg : ∀ x, x ∈ rings ↔ x ∈ rawRings n r) : Facts n r rings := by
  obtain ⟨m, t, cs, L⟩ := lst_of wo
  refine ⟨⟨m, t, cs, L.e, L.lo, L.hi, L.c, L.co, L.lt, L.no, L.at', L.mn, val_some wo L.c, ?_⟩, count_fact wo, ?_, fun sg hs h hh => col_fact wo (ringless_mem.mp hs).1 hh, fun a ha b hb => led_fact wo hrg ha hb, fun h a _ _ _ ts q => clk_fact wo q, low_fact wo hrg, fun hne sg hs h a ha _ _ => tby_fact wo hrg hne hs h a ha⟩
  · have lo := L.lo
    have e : (m : Int) - 1 = ((m - 1 : Nat) : Int) := by omega
    rw [e]
    by_cases c : 1 < m
    · exact val_none wo (L.no c)
    · have : m - 1 = 0 := by omega
      rw [this]; exact val_zero wo
  · rw [alt_val]; exact count_fact wo
end TS
/-! A logic of plain data over the hand layer -/
namespace TD
open PySem L2
/-! ### canonical readings -/
section
variable (X : Cx)
def wE (e : Expr) : TE := fun σ H Q => ∀ pins s, Inv X pins σ H s → wpAny (model X.prog X.w) X.A (eval e X.env) (EP X pins σ Q) X.xe s
def wT (e : Expr) : TT := fun σ H Q => ∀ pins s, Inv X pins σ H s → wpAny (model X.prog X.w) X.A (isTrue e X.env (eval e X.env)) (TP X pins σ Q) X.xe s
def wA (es : List Expr) : TA := fun σ H Q => ∀ (pos : Pos) pins s, Inv X pins σ H s → wpAny (model X.prog X.w) X.A (spliced (backTo pos (starEach es X.env))) (AP X pins σ Q) X.xe s
def wS (st : Stmt) : TS := fun D σ H => ∀ pins s, Inv X pins σ H s → wpAny (model X.prog X.w) X.A (exec st X.env) (SP X pins D) X.xe s
def wSs (st : List Stmt) : TS := fun D σ H => ∀ pins s, Inv X pins σ H s → wpAny (model X.prog X.w) X.A (execs st X.env) (SP X pins D) X.xe s
def wG (t : Expr) : TG := fun v σ H Q => ∀ pins s u, Inv X pins σ H s → RelV v u → wpAny (model X.prog X.w) X.A (assign t X.env u) (fun _ s' => ∃ σ' H', Inv X pins σ' H' s' ∧ Q σ' H') X.xe s
def wGs (ts : List Expr) : TGs := fun vs σ H Q => ∀ pins s us, Inv X pins σ H s → Vals vs us → wpAny (model X.prog X.w) X.A (assignInOrder ((assignEach ts X.env).map (·.2)) us) (fun _ s' => ∃ σ' H', Inv X pins σ' H' s' ∧ Q σ' H') X.xe s
variable {X}
theorem wE_pe (e : Expr) : PE X e (wE X e) := ⟨fun pins s _ _ _ I h => h pins s I⟩
theorem wT_pt (e : Expr) : PT X e (wT X e) := ⟨fun pins s _ _ _ I h => h pins s I⟩
theorem wA_pa (es : List Expr) : PA X es (wA X es) := ⟨fun pos pins s _ _ _ I h => h pos pins s I⟩
theorem wS_ps (st : Stmt) : PS X st (wS X st) := ⟨fun pins s _ _ _ I h => h pins s I⟩
theorem wSs_pss (st : List Stmt) : PSs X st (wSs X st) := ⟨fun pins s _ _ _ I h => h pins s I⟩
theorem wG_pg (t : Expr) : PG X t (wG X t) := ⟨fun pins s _ _ _ u _ I r h => h pins s u I r⟩
theorem wGs_pgs (ts : List Expr) : PGs X ts (wGs X ts) := ⟨fun pins s _ _ _ us _ I r h => h pins s us I r⟩
theorem wE_of {e : Expr} {t : TE} {σ : L2.St} {H : Hp} {Q : VK} (h : PE X e t) (q : t σ H Q) : wE X e σ H Q := fun pins s I => h.run pins s σ H Q I q
theorem wT_of {e : Expr} {t : TT} {σ : L2.St} {H : Hp} {Q : Bool → Hp → Prop} (h : PT X e t) (q : t σ H Q) : wT X e σ H Q := fun pins s I => h.run pins s σ H Q I q
theorem wA_of {es : List Expr} {t : TA} {σ : L2.St} {H : Hp} {Q : List V → Hp → Prop} (h : PA X es t) (q : t σ H Q) : wA X es σ H Q := fun pos pins s I => h.run pos pins s σ H Q I q
theorem wS_of {st : Stmt} {t : TS} {σ : L2.St} {H : Hp} {D : Ends} (h : PS X st t) (q : t D σ H) : wS X st D σ H := fun pins s I => h.run pins s σ H D I q
theorem wSs_of {st : List Stmt} {t : TS} {σ : L2.St} {H : Hp} {D : Ends} (h : PSs X st t) (q : t D σ H) : wSs X st D σ H := fun pins s I => h.run pins s σ H D I q
theorem wG_of {e : Expr} {t : TG} {v : V} {σ : L2.St} {H : Hp} {Q : L2.St → Hp → Prop} (h : PG X e t) (q : t v σ H Q) : wG X e v σ H Q := fun pins s u I r => h.run pins s σ H v u Q I r q
theorem wGs_of {e : List Expr} {t : TGs} {v : List V} {σ : L2.St} {H : Hp} {Q : L2.St → Hp → Prop} (h : PGs X e t) (q : t v σ H Q) : wGs X e v σ H Q := fun pins s u I r => h.run pins s σ H v u Q I r q
end
/-! ### data -/
mutual
inductive Rp (H : Hp) : V → PyData → Prop
  | non : Rp H .non .none
  | bl (b : Bool) : Rp H (.bl b) (.bool b)
  | int (i : Int) : Rp H (.int i) (.int i)
  | str (x : Str) : Rp H (.str x) (.str x)
  | lst {a : Addr} {xs : List V} {ds : List PyData} : H a = some (.lst xs) → RpAll H xs ds → Rp H (.ref a) (.list ds)
  | tup {a : Addr} {xs : List V} {ds : List PyData} : H a = some (.tup xs) → RpAll H xs ds → Rp H (.ref a) (.tuple ds)
inductive RpAll (H : Hp) : List V → List PyData → Prop
  | nil : RpAll H [] []
  | cons {v : V} {vs : List V} {d : PyData} {ds : List PyData} : Rp H v d → RpAll H vs ds → RpAll H (v :: vs) (d :: ds)
end
mutual
theorem Rp.mono {H H' : Hp} (e : Same H H') : ∀ {v : V} {d : PyData}, Rp H v d → Rp H' v d
  | _, _, .non => .non
  | _, _, .bl b => .bl b
  | _, _, .int i => .int i
  | _, _, .str x => .str x
  | _, _, .lst h a => .lst (e _ _ h) (RpAll.mono e a)
  | _, _, .tup h a => .tup (e _ _ h) (RpAll.mono e a)
theorem RpAll.mono {H H' : Hp} (e : Same H H') : ∀ {v : List V} {d : List PyData}, RpAll H v d → RpAll H' v d
  | _, _, .nil => .nil
  | _, _, .cons h t => .cons (Rp.mono e h) (RpAll.mono e t)
end
mutual
theorem Rp.dp (K : PySem.W.Frag) {H : Hp} : ∀ {v : V} {d : PyData}, Rp H v d → Dp K H v d
  | _, _, .non => .non
  | _, _, .bl b => .bl b
  | _, _, .int i => .int i
  | _, _, .str x => .str x
  | _, _, .lst h a => .lst (SqL.of h) (RpAll.dp K a)
  | _, _, .tup h a => .tup (SqT.of h) (RpAll.dp K a)
theorem RpAll.dp (K : PySem.W.Frag) {H : Hp} : ∀ {v : List V} {d : List PyData}, RpAll H v d → DpAll K H v d
  | _, _, .nil => .nil
  | _, _, .cons h t => .cons (Rp.dp K h) (RpAll.dp K t)
end
theorem RpAll.length {H : Hp} : ∀ {vs : List V} {ds : List PyData}, RpAll H vs ds → vs.length = ds.length
  | _, _, .nil => rfl
  | _, _, .cons _ t => congrArg (· + 1) (RpAll.length t)
theorem RpAll.get {H : Hp} : ∀ {vs : List V} {ds : List PyData} {i : Nat} {d : PyData}, RpAll H vs ds → ds[i]? = some d → ∃ v, vs[i]? = some v ∧ Rp H v d
  | _, _, 0, _, .cons h _, e => by cases e; exact ⟨_, rfl, h⟩
  | _, _, i + 1, d, .cons _ t, e => by
    obtain ⟨v, h1, h2⟩ := RpAll.get (i := i) (d := d) t (by simpa using e)
    exact ⟨v, by simpa using h1, h2⟩
theorem RpAll.get' {H : Hp} {vs : List V} {ds : List PyData} {i : Nat} {v : V} (h : RpAll H vs ds) (e : vs[i]? = some v) : ∃ d, ds[i]? = some d ∧ Rp H v d := by
  have hl := h.length
  have hi : i < vs.length := (List.getElem?_eq_some_iff.mp e).1
  have e2 : ds[i]? = some ds[i] := List.getElem?_eq_getElem (by omega)
  obtain ⟨w, h1, h2⟩ := h.get e2
  rw [e] at h1; cases h1
  exact ⟨_, e2, h2⟩
theorem RpAll.append {H : Hp} : ∀ {vs ws : List V} {ds es : List PyData}, RpAll H vs ds → RpAll H ws es → RpAll H (vs ++ ws) (ds ++ es)
  | _, _, _, _, .nil, s => s
  | _, _, _, _, .cons h t, s => .cons h (RpAll.append t s)
theorem RpAll.set {H : Hp} {v : V} {d : PyData} (r : Rp H v d) : ∀ {vs : List V} {ds : List PyData} (i : Nat), RpAll H vs ds → RpAll H (vs.set i v) (ds.set i d)
  | _, _, _, .nil => .nil
  | _, _, 0, .cons _ t => .cons r t
  | _, _, i + 1, .cons h t => .cons h (RpAll.set r i t)
theorem RpAll.take {H : Hp} : ∀ {vs : List V} {ds : List PyData} (i : Nat), RpAll H vs ds → RpAll H (vs.take i) (ds.take i)
  | _, _, 0, _ => .nil
  | _, _, _ + 1, .nil => .nil
  | _, _, i + 1, .cons h t => .cons h (RpAll.take i t)
theorem RpAll.drop {H : Hp} : ∀ {vs : List V} {ds : List PyData} (i : Nat), RpAll H vs ds → RpAll H (vs.drop i) (ds.drop i)
  | _, _, 0, r => r
  | _, _, _ + 1, .nil => .nil
  | _, _, i + 1, .cons _ t => RpAll.drop i t
theorem RpAll.rev {H : Hp} : ∀ {vs : List V} {ds : List PyData}, RpAll H vs ds → RpAll H vs.reverse ds.reverse
  | _, _, .nil => .nil
  | _, _, .cons h t => by
    rw [List.reverse_cons, List.reverse_cons]
    exact RpAll.append (RpAll.rev t) (.cons h .nil)
theorem RpAll.ints {H : Hp} : ∀ {vs : List V} {ns : List Int}, RpAll H vs (ns.map .int) → vs = ns.map V.int
  | _, [], .nil => rfl
  | _, n :: ns, .cons (.int _) t => congrArg (V.int n :: ·) (RpAll.ints t)
theorem RpAll.bls {H : Hp} : ∀ {vs : List V} {ns : List Bool}, RpAll H vs (ns.map .bool) → vs = ns.map V.bl
  | _, [], .nil => rfl
  | _, n :: ns, .cons (.bl _) t => congrArg (V.bl n :: ·) (RpAll.bls t)
theorem RpAll.of_ints {H : Hp} : ∀ (ns : List Int), RpAll H (ns.map V.int) (ns.map .int)
  | [] => .nil
  | n :: r => .cons (.int n) (RpAll.of_ints r)
theorem RpAll.rep {H : Hp} {v : V} {d : PyData} (h : Rp H v d) : ∀ n, RpAll H (List.replicate n v) (List.replicate n d)
  | 0 => .nil
  | n + 1 => .cons h (RpAll.rep h n)
/-! ### growth: G what never changes, H all that is tracked -/
def isMuO : HO → Bool
  | .lst _ => true
  | .dT _ => true
  | .ins _ _ _ => true
  | _ => false
structure Gr (G H G' H' : Hp) : Prop where
  g : Same G G'
  h : Same H H'
  i : Same G' H'
  n : ∀ a o, G a = none → H a = some o → isMuO o = true → G' a = none
theorem Gr.refl {G H : Hp} (h : Same G H) : Gr G H G H := ⟨Same.refl _, Same.refl _, h, fun _ _ e _ _ => e⟩
theorem Gr.trans {G H G1 H1 G2 H2 : Hp} (a : Gr G H G1 H1) (b : Gr G1 H1 G2 H2) : Gr G H G2 H2 := by
  exact ⟨a.g.trans b.g, a.h.trans b.h, b.i, fun c o e1 e2 e3 => b.n c o (a.n c o e1 e2 e3) (a.h _ _ e2) e3⟩
theorem same_new {H : Hp} {p : Addr} (h : H p = none) (o : HO) : Same H (upd H p o) := fun b u q => by rw [upd_ne (ne_of_none q h)]; exact q
theorem same_upd {G H : Hp} {p : Addr} {o : HO} (h : Same G H) : Same (upd G p o) (upd H p o) := fun b u q => by
  by_cases e : b = p
  · subst e; rw [upd_same] at q ⊢; exact q
  · rw [upd_ne e] at q ⊢; exact h b u q
/-- a new object, known to G -/
theorem Gr.new {G H : Hp} {p : Addr} (o : HO) (s : Same G H) (h : H p = none) : Gr G H (upd G p o) (upd H p o) :=
  ⟨same_new (s.free h) o, same_new h o, same_upd s, fun a o e1 e2 _ => by rw [upd_ne (ne_of_none e2 h)]; exact e1⟩
/-- a new object, not known to G -/
theorem Gr.mut {G H : Hp} {p : Addr} (o : HO) (s : Same G H) (h : H p = none) : Gr G H G (upd H p o) :=
  ⟨Same.refl _, same_new h o, s.trans (same_new h o), fun a _ e1 _ _ => e1⟩
/-! ### webs -/
def dI (n : Nat) : PyData := .int (n : Int)
def dP (p : Nat × Nat) : PyData := .tuple [dI p.1, dI p.2]
def dRows (r : List (Nat × Nat)) : PyData := .tuple (r.map dP)
def wf (n : Nat) (rv : V) : List (Str × V) := putF "rows" rv (putF "many" (.int n) [])
theorem ne_mr : ¬ (("many" : Str) = "rows") := by decide +kernel
theorem wf_many (n : Nat) (rv : V) : (wf n rv).lookup ("many" : Str) = some (.int n) := by
  unfold wf
  rw [lookup_putF, if_neg ne_mr, lookup_putF, if_pos rfl]
theorem wf_rows (n : Nat) (rv : V) : (wf n rv).lookup ("rows" : Str) = some rv := by
  unfold wf
  rw [lookup_putF, if_pos rfl]
def Rw (C : Addr) (G : Hp) (v : V) (n : Nat) (r : List (Nat × Nat)) : Prop := ∃ p dx rv, v = .ref p ∧ G p = some (.ins C dx (wf n rv)) ∧ Rp G rv (dRows r)
theorem Rw.mono {C : Addr} {G G' : Hp} {v : V} {n : Nat} {r : List (Nat × Nat)} (e : Same G G') (h : Rw C G v n r) : Rw C G' v n r := by
  obtain ⟨p, dx, rv, h1, h2, h3⟩ := h
  exact ⟨p, dx, rv, h1, e _ _ h2, h3.mono e⟩
/-! ### slots -/
inductive Sl where
  | no | v (d : PyData) | web (n : Nat) (r : List (Nat × Nat)) | mu (ds : List PyData) | di (kvs : List (List Int × PyData)) | fz (ns : List Int) | ob (p K dx : Addr) (k n : Nat) (r : List (Nat × Nat)) | ml (a : Addr) (ds : List PyData)
abbrev DEnv := List Sl
def kInts (k : List Int) : List Key := k.map Sum.inl
inductive RpKV (G : Hp) : List (List Key × V) → List (List Int × PyData) → Prop
  | nil : RpKV G [] []
  | cons {k : List Int} {v : V} {d : PyData} {r : List (List Key × V)} {q : List (List Int × PyData)} : Rp G v d → RpKV G r q → RpKV G ((kInts k, v) :: r) ((k, d) :: q)
/-- the fields of an own object: none yet, the first, both -/
def ObF (G : Hp) (k n : Nat) (r : List (Nat × Nat)) (fs : List (Str × V)) : Prop := match k with
  | 0 => fs = []
  | 1 => fs = putF "many" (.int n) []
  | _ => ∃ rv, fs = wf n rv ∧ Rp G rv (dRows r)
theorem ObF.mono {G G' : Hp} {n : Nat} {r : List (Nat × Nat)} {fs : List (Str × V)} (s : Same G G') : ∀ {k : Nat}, ObF G k n r fs → ObF G' k n r fs
  | 0, h => h
  | 1, h => h
  | _ + 2, ⟨rv, h1, h2⟩ => ⟨rv, h1, h2.mono s⟩
def SlOk (C : Addr) (G H : Hp) : Sl → Option (Option V) → Prop
  | .no, _ => True
  | .v d, x => ∃ v, x = some (some v) ∧ Rp G v d
  | .web n r, x => ∃ v, x = some (some v) ∧ Rw C G v n r
  | .mu ds, x => ∃ a xs, x = some (some (.ref a)) ∧ H a = some (.lst xs) ∧ G a = none ∧ RpAll G xs ds
  | .di kvs, x => ∃ a ks, x = some (some (.ref a)) ∧ H a = some (.dT ks) ∧ G a = none ∧ RpKV G ks kvs
  | .fz ns, x => ∃ a o, x = some (some (.ref a)) ∧ o.dict = none ∧ G a = some (.frz o (.tup (ns.map V.int)))
  | .ob p K dx k n r, x => x = some (some (.ref p)) ∧ G p = none ∧ ∃ fs, H p = some (.ins K dx fs) ∧ ObF G k n r fs
  | .ml a ds, x => ∃ xs, x = some (some (.ref a)) ∧ H a = some (.lst xs) ∧ G a = none ∧ RpAll G xs ds
def Sl.isMu : Sl → Bool
  | .mu _ => true
  | .di _ => true
  | .ob _ _ _ _ _ _ => true
  | .ml _ _ => true
  | _ => false
def Mu (env : DEnv) (i : Nat) : Prop := ∃ e, env[i]? = some e ∧ e.isMu = true
structure St (C : Addr) (G0 H0 G H : Hp) (σ : L2.St) (env : DEnv) : Prop where
  gr : Gr G0 H0 G H
  len : σ.length = env.length
  sl : ∀ (i : Nat) (e : Sl), env[i]? = some e → SlOk C G H e σ[i]?
  ds : ∀ (i j : Nat) (a : Addr), i ≠ j → Mu env i → Mu env j → σ[i]? = some (some (.ref a)) → σ[j]? = some (some (.ref a)) → False
  fr : ∀ (i : Nat) (a : Addr), Mu env i → σ[i]? = some (some (.ref a)) → H0 a = none
theorem RpKV.mono {G G' : Hp} (e : Same G G') : ∀ {a : List (List Key × V)} {b : List (List Int × PyData)}, RpKV G a b → RpKV G' a b
  | _, _, .nil => .nil
  | _, _, .cons h t => .cons (h.mono e) (RpKV.mono e t)
section
variable {C : Addr} {G0 H0 G H G' H' : Hp} {σ : L2.St} {env : DEnv}
theorem SlOk.mono {e : Sl} {x : Option (Option V)} (s : SlOk C G H e x) (g : Gr G H G' H') : SlOk C G' H' e x := by
  cases e with
  | no => trivial
  | v d => obtain ⟨v, h1, h2⟩ := s; exact ⟨v, h1, h2.mono g.g⟩
  | web n r => obtain ⟨v, h1, h2⟩ := s; exact ⟨v, h1, h2.mono g.g⟩
  | fz ns => obtain ⟨a, o, h1, h2, h3⟩ := s; exact ⟨a, o, h1, h2, g.g _ _ h3⟩
  | ob p K dx k n r => obtain ⟨h1, h3, fs, h2, h4⟩ := s; exact ⟨h1, g.n p _ h3 h2 rfl, fs, g.h _ _ h2, h4.mono g.g⟩
  | ml a ds => obtain ⟨xs, h1, h2, h3, h4⟩ := s; exact ⟨xs, h1, g.h _ _ h2, g.n a _ h3 h2 rfl, h4.mono g.g⟩
  | mu ds => obtain ⟨a, xs, h1, h2, h3, h4⟩ := s; exact ⟨a, xs, h1, g.h _ _ h2, g.n a _ h3 h2 rfl, h4.mono g.g⟩
  | di kvs => obtain ⟨a, xs, h1, h2, h3, h4⟩ := s; exact ⟨a, xs, h1, g.h _ _ h2, g.n a _ h3 h2 rfl, h4.mono g.g⟩
theorem St.same (S : St C G0 H0 G H σ env) : Same G H := S.gr.i
theorem St.grow (S : St C G0 H0 G H σ env) (g : Gr G H G' H') : St C G0 H0 G' H' σ env :=
  ⟨S.gr.trans g, S.len, fun i e h => (S.sl i e h).mono g, S.ds, S.fr⟩
theorem St.refl (S : St C G0 H0 G H σ env) : Gr G H G H := Gr.refl S.same
theorem St.val (S : St C G0 H0 G H σ env) {i : Nat} {d : PyData} (h : env[i]? = some (.v d)) : ∃ v, σ[i]? = some (some v) ∧ Rp G v d := S.sl i _ h
theorem St.web (S : St C G0 H0 G H σ env) {i : Nat} {n : Nat} {r : List (Nat × Nat)} (h : env[i]? = some (.web n r)) : ∃ v, σ[i]? = some (some v) ∧ Rw C G v n r := S.sl i _ h
theorem St.mu (S : St C G0 H0 G H σ env) {i : Nat} {ds : List PyData} (h : env[i]? = some (.mu ds)) : ∃ a xs, σ[i]? = some (some (.ref a)) ∧ H a = some (.lst xs) ∧ G a = none ∧ RpAll G xs ds := S.sl i _ h
theorem St.di (S : St C G0 H0 G H σ env) {i : Nat} {ds : List (List Int × PyData)} (h : env[i]? = some (.di ds)) : ∃ a xs, σ[i]? = some (some (.ref a)) ∧ H a = some (.dT xs) ∧ G a = none ∧ RpKV G xs ds := S.sl i _ h
theorem St.fz (S : St C G0 H0 G H σ env) {i : Nat} {ns : List Int} (h : env[i]? = some (.fz ns)) : ∃ a o, σ[i]? = some (some (.ref a)) ∧ o.dict = none ∧ G a = some (.frz o (.tup (ns.map V.int))) := S.sl i _ h
theorem St.ob (S : St C G0 H0 G H σ env) {i : Nat} {p K dx : Addr} {k n : Nat} {r : List (Nat × Nat)} (h : env[i]? = some (.ob p K dx k n r)) : σ[i]? = some (some (.ref p)) ∧ G p = none ∧ ∃ fs, H p = some (.ins K dx fs) ∧ ObF G k n r fs := S.sl i _ h
theorem St.ml (S : St C G0 H0 G H σ env) {i : Nat} {a : Addr} {ds : List PyData} (h : env[i]? = some (.ml a ds)) : ∃ xs, σ[i]? = some (some (.ref a)) ∧ H a = some (.lst xs) ∧ G a = none ∧ RpAll G xs ds := S.sl i _ h
theorem set_get {α : Type} {l : List α} {i : Nat} {x : α} (h : i < l.length) : (l.set i x)[i]? = some x := by rw [List.getElem?_set_self h]
theorem set_get' {α : Type} {l : List α} {i j : Nat} {x : α} (h : i ≠ j) : (l.set i x)[j]? = l[j]? := List.getElem?_set_ne h
/-- a slot gets a value that is no list of ours -/
theorem St.put (S : St C G0 H0 G H σ env) {i : Nat} {v : V} {e : Sl} (hi : i < env.length) (hm : e.isMu = false) (h : SlOk C G H e (some (some v))) : St C G0 H0 G H (σ.set i (some v)) (env.set i e) := by
  have notMu : ∀ {j}, Mu (env.set i e) j → j ≠ i ∧ Mu env j := fun {j} ⟨u, q1, q2⟩ => by
    by_cases hj : i = j
    · subst hj; rw [set_get hi] at q1; cases q1; rw [hm] at q2; cases q2
    · rw [set_get' hj] at q1; exact ⟨fun z => hj z.symm, u, q1, q2⟩
  refine ⟨S.gr, by rw [List.length_set, List.length_set, S.len], fun j u q => ?_, fun j k a hjk m1 m2 e1 e2 => ?_, fun j a m1 e1 => ?_⟩
  · by_cases hj : i = j
    · subst hj; rw [set_get hi] at q; cases q; rw [set_get (by rw [S.len]; exact hi)]; exact h
    · rw [set_get' hj] at q ⊢; exact S.sl j u q
  · obtain ⟨n1, m1⟩ := notMu m1
    obtain ⟨n2, m2⟩ := notMu m2
    rw [set_get' (Ne.symm n1)] at e1
    rw [set_get' (Ne.symm n2)] at e2
    exact S.ds j k a hjk m1 m2 e1 e2
  · obtain ⟨n1, m1⟩ := notMu m1
    rw [set_get' (Ne.symm n1)] at e1
    exact S.fr j a m1 e1
/-- a slot gets a new list of ours -/
theorem St.putMu (S : St C G0 H0 G H σ env) {i : Nat} {p : Addr} {e : Sl} {o : HO} (hi : i < env.length) (hp : H p = none) (h : SlOk C G (upd H p o) e (some (some (.ref p)))) : St C G0 H0 G (upd H p o) (σ.set i (some (.ref p))) (env.set i e) := by
  have g := Gr.mut o S.same hp
  have S' := S.grow g
  -- an old list of ours stands elsewhere
  have old : ∀ {j a}, Mu env j → σ[j]? = some (some (.ref a)) → a ≠ p := fun {j a} ⟨u, q1, q2⟩ q3 z => by
    have ok := S.sl j u q1
    cases u with
    | no => cases q2
    | v d => cases q2
    | web n r => cases q2
    | fz ns => cases q2
    | ob p' K dx k n r => obtain ⟨h1, _, fs, h2, _⟩ := ok; rw [q3] at h1; cases h1; rw [z, hp] at h2; cases h2
    | ml a' ds => obtain ⟨xs, h1, h2, _⟩ := ok; rw [q3] at h1; cases h1; rw [z, hp] at h2; cases h2
    | mu ds => obtain ⟨b, xs, h1, h2, _⟩ := ok; rw [q3] at h1; cases h1; rw [z, hp] at h2; cases h2
    | di ds => obtain ⟨b, xs, h1, h2, _⟩ := ok; rw [q3] at h1; cases h1; rw [z, hp] at h2; cases h2
  have get : ∀ {j a}, (σ.set i (some (.ref p)))[j]? = some (some (.ref a)) → (j = i ∧ a = p) ∨ (j ≠ i ∧ σ[j]? = some (some (.ref a))) := fun {j a} q => by
    by_cases hj : i = j
    · subst hj; rw [set_get (by rw [S.len]; exact hi)] at q; cases q; exact .inl ⟨rfl, rfl⟩
    · rw [set_get' hj] at q; exact .inr ⟨fun z => hj z.symm, q⟩
  have muo : ∀ {j}, j ≠ i → Mu (env.set i e) j → Mu env j := fun {j} hj ⟨u, q1, q2⟩ => by
    rw [set_get' (Ne.symm hj)] at q1; exact ⟨u, q1, q2⟩
  refine ⟨S'.gr, by rw [List.length_set, List.length_set, S.len], fun j u q => ?_, fun j k a hjk m1 m2 e1 e2 => ?_, fun j a m1 e1 => ?_⟩
  · by_cases hj : i = j
    · subst hj; rw [set_get hi] at q; cases q; rw [set_get (by rw [S.len]; exact hi)]; exact h
    · rw [set_get' hj] at q ⊢; exact S'.sl j u q
  · rcases get e1 with ⟨z1, z2⟩ | ⟨z1, z2⟩ <;> rcases get e2 with ⟨y1, y2⟩ | ⟨y1, y2⟩
    · exact hjk (z1.trans y1.symm)
    · exact old (muo y1 m2) y2 z2
    · exact old (muo z1 m1) z2 y2
    · exact S.ds j k a hjk (muo z1 m1) (muo y1 m2) z2 y2
  · rcases get e1 with ⟨z1, z2⟩ | ⟨z1, z2⟩
    · subst z2; exact S.gr.h.free hp
    · exact S.fr j a (muo z1 m1) z2
/-- a list of ours is changed -/
theorem St.change (S : St C G0 H0 G H σ env) {i : Nat} {a : Addr} {e : Sl} {o : HO} (hi : i < env.length) (hm : Mu env i) (he : e.isMu = true) (ha : σ[i]? = some (some (.ref a))) (hG : G a = none) (hH : H a ≠ none)
    (h : SlOk C G (upd H a o) e (some (some (.ref a)))) : St C G0 H0 G (upd H a o) σ (env.set i e) := by
  have mu : ∀ {j}, Mu (env.set i e) j → Mu env j := fun {j} ⟨u, q1, q2⟩ => by
    by_cases hj : i = j
    · subst hj; exact hm
    · rw [set_get' hj] at q1; exact ⟨u, q1, q2⟩
  have H0a : H0 a = none := S.fr i a hm ha
  refine ⟨⟨S.gr.g, fun b u q => ?_, fun b u q => ?_, S.gr.n⟩, by rw [List.length_set, S.len], fun j u q => ?_, fun j k b hjk m1 m2 => S.ds j k b hjk (mu m1) (mu m2), fun j b m1 => S.fr j b (mu m1)⟩
  · rw [upd_ne (ne_of_none q H0a)]; exact S.gr.h b u q
  · rw [upd_ne (ne_of_none q hG)]; exact S.gr.i b u q
  · by_cases hj : i = j
    · subst hj; rw [set_get hi] at q; cases q; rw [ha]; exact h
    · rw [set_get' hj] at q
      have ok := S.sl j u q
      cases u with
      | no => trivial
      | v d => exact ok
      | web n r => exact ok
      | fz ns => exact ok
      | ob p' K dx k n r =>
        obtain ⟨h1, h3, fs, h2, h4⟩ := ok
        have hb : p' ≠ a := fun z => S.ds i j a hj hm ⟨_, q, rfl⟩ ha (by rw [h1, z])
        exact ⟨h1, h3, fs, by rw [upd_ne hb]; exact h2, h4⟩
      | ml b ds =>
        obtain ⟨xs, h1, h2, h3, h4⟩ := ok
        have hb : b ≠ a := fun z => S.ds i j a hj hm ⟨_, q, rfl⟩ ha (by rw [h1, z])
        exact ⟨xs, h1, by rw [upd_ne hb]; exact h2, h3, h4⟩
      | mu ds =>
        obtain ⟨b, xs, h1, h2, h3, h4⟩ := ok
        have hb : b ≠ a := fun z => S.ds i j a hj hm ⟨_, q, rfl⟩ ha (by rw [h1, z])
        exact ⟨b, xs, h1, by rw [upd_ne hb]; exact h2, h3, h4⟩
      | di ds =>
        obtain ⟨b, xs, h1, h2, h3, h4⟩ := ok
        have hb : b ≠ a := fun z => S.ds i j a hj hm ⟨_, q, rfl⟩ ha (by rw [h1, z])
        exact ⟨b, xs, h1, by rw [upd_ne hb]; exact h2, h3, h4⟩
/-- a list of ours is ours no more: it never changes again -/
theorem St.freeze (S : St C G0 H0 G H σ env) {i : Nat} {ds : List PyData} (h : env[i]? = some (.mu ds)) : ∃ G', Gr G0 H0 G' H ∧ Same G G' ∧ St C G0 H0 G' H σ (env.set i (.v (.list ds))) := by
  obtain ⟨a, xs, h1, h2, h3, h4⟩ := S.mu h
  have hi : i < env.length := (List.getElem?_eq_some_iff.mp h).1
  have sm : Same G (upd G a (.lst xs)) := same_new h3 _
  have H0a := S.fr i a ⟨_, h, rfl⟩ h1
  have gr : Gr G0 H0 (upd G a (.lst xs)) H := by
    refine ⟨S.gr.g.trans sm, S.gr.h, fun b u q => ?_, fun b o e1 e2 e3 => ?_⟩
    · by_cases hb : b = a
      · subst hb; rw [upd_same] at q; cases q; exact h2
      · rw [upd_ne hb] at q; exact S.gr.i b u q
    · rw [upd_ne (ne_of_none e2 H0a)]; exact S.gr.n b o e1 e2 e3
  have notMu : ∀ {j}, Mu (env.set i (.v (.list ds))) j → j ≠ i ∧ Mu env j := fun {j} ⟨u, q1, q2⟩ => by
    by_cases hj : i = j
    · subst hj; rw [set_get hi] at q1; cases q1; cases q2
    · rw [set_get' hj] at q1; exact ⟨fun z => hj z.symm, u, q1, q2⟩
  refine ⟨_, gr, sm, gr, by rw [List.length_set, S.len], fun j u q => ?_, fun j k b hjk m1 m2 => S.ds j k b hjk (notMu m1).2 (notMu m2).2, fun j b m1 => S.fr j b (notMu m1).2⟩
  by_cases hj : i = j
  · subst hj; rw [set_get hi] at q; cases q; rw [h1]; exact ⟨_, rfl, .lst upd_same (h4.mono sm)⟩
  · rw [set_get' hj] at q
    have ok := S.sl j u q
    cases u with
    | no => trivial
    | v d => obtain ⟨v, q1, q2⟩ := ok; exact ⟨v, q1, q2.mono sm⟩
    | web n r => obtain ⟨v, q1, q2⟩ := ok; exact ⟨v, q1, q2.mono sm⟩
    | fz ns => obtain ⟨b, o, q1, q2, q3⟩ := ok; exact ⟨b, o, q1, q2, sm _ _ q3⟩
    | ob p' K dx k n r =>
      obtain ⟨q1, q3, fs, q2, q4⟩ := ok
      have hb : p' ≠ a := fun z => S.ds i j a hj ⟨_, h, rfl⟩ ⟨_, q, rfl⟩ h1 (by rw [q1, z])
      exact ⟨q1, by rw [upd_ne hb]; exact q3, fs, q2, q4.mono sm⟩
    | ml b ds' =>
      obtain ⟨ys, q1, q2, q3, q4⟩ := ok
      have hb : b ≠ a := fun z => S.ds i j a hj ⟨_, h, rfl⟩ ⟨_, q, rfl⟩ h1 (by rw [q1, z])
      exact ⟨ys, q1, q2, by rw [upd_ne hb]; exact q3, q4.mono sm⟩
    | mu ds' =>
      obtain ⟨b, ys, q1, q2, q3, q4⟩ := ok
      have hb : b ≠ a := fun z => S.ds i j a hj ⟨_, h, rfl⟩ ⟨_, q, rfl⟩ h1 (by rw [q1, z])
      exact ⟨b, ys, q1, q2, by rw [upd_ne hb]; exact q3, q4.mono sm⟩
    | di ds' =>
      obtain ⟨b, ys, q1, q2, q3, q4⟩ := ok
      have hb : b ≠ a := fun z => S.ds i j a hj ⟨_, h, rfl⟩ ⟨_, q, rfl⟩ h1 (by rw [q1, z])
      exact ⟨b, ys, q1, q2, by rw [upd_ne hb]; exact q3, q4.mono sm⟩
/-- what is known of a slot is forgotten -/
theorem St.forget (S : St C G0 H0 G H σ env) {i : Nat} {v : Option V} (hi : i < env.length) : St C G0 H0 G H (σ.set i v) (env.set i .no) := by
  have notMu : ∀ {j}, Mu (env.set i .no) j → j ≠ i ∧ Mu env j := fun {j} ⟨u, q1, q2⟩ => by
    by_cases hj : i = j
    · subst hj; rw [set_get hi] at q1; cases q1; cases q2
    · rw [set_get' hj] at q1; exact ⟨fun z => hj z.symm, u, q1, q2⟩
  refine ⟨S.gr, by rw [List.length_set, List.length_set, S.len], fun j u q => ?_, fun j k a hjk m1 m2 e1 e2 => ?_, fun j a m1 e1 => ?_⟩
  · by_cases hj : i = j
    · subst hj; rw [set_get hi] at q; cases q; trivial
    · rw [set_get' hj] at q ⊢; exact S.sl j u q
  · obtain ⟨n1, m1⟩ := notMu m1
    obtain ⟨n2, m2⟩ := notMu m2
    rw [set_get' (Ne.symm n1)] at e1
    rw [set_get' (Ne.symm n2)] at e2
    exact S.ds j k a hjk m1 m2 e1 e2
  · obtain ⟨n1, m1⟩ := notMu m1
    rw [set_get' (Ne.symm n1)] at e1
    exact S.fr j a m1 e1
end
end TD
namespace TD
open PySem L2
/-! ### what an expression gives -/
section
variable (X : Cx) (C : Addr) (env : DEnv)
structure DE (e : Expr) (d : PyData) : Prop where
  run : ∀ {G0 H0 G H : Hp} {σ : L2.St}, St C G0 H0 G H σ env → ∀ Q : VK, (∀ v G' H', Gr G H G' H' → Rp G' v d → Q v H') → wE X e σ H Q
/-- as it is read now -/
structure DR (e : Expr) (d : PyData) : Prop where
  run : ∀ {G0 H0 G H : Hp} {σ : L2.St}, St C G0 H0 G H σ env → ∀ Q : VK, (∀ v G' H', Gr G H G' H' → Rp H' v d → Q v H') → wE X e σ H Q
structure DW (e : Expr) (n : Nat) (r : List (Nat × Nat)) : Prop where
  run : ∀ {G0 H0 G H : Hp} {σ : L2.St}, St C G0 H0 G H σ env → ∀ Q : VK, (∀ v G' H', Gr G H G' H' → Rw C G' v n r → Q v H') → wE X e σ H Q
/-- a list, as it is read now; its items never change -/
structure DL (e : Expr) (ds : List PyData) : Prop where
  run : ∀ {G0 H0 G H : Hp} {σ : L2.St}, St C G0 H0 G H σ env → ∀ Q : VK, (∀ a xs G' H', Gr G H G' H' → H' a = some (.lst xs) → RpAll G' xs ds → Q (.ref a) H') → wE X e σ H Q
/-- a list or a tuple -/
structure DQ (e : Expr) (ds : List PyData) : Prop where
  run : ∀ {G0 H0 G H : Hp} {σ : L2.St}, St C G0 H0 G H σ env → ∀ Q : VK, (∀ a xs G' H', Gr G H G' H' → (H' a = some (.lst xs) ∨ H' a = some (.tup xs)) → RpAll G' xs ds → Q (.ref a) H') → wE X e σ H Q
/-- a new list -/
structure DN (e : Expr) (ds : List PyData) : Prop where
  run : ∀ {G0 H0 G H : Hp} {σ : L2.St}, St C G0 H0 G H σ env → ∀ Q : VK, (∀ p xs G' H', Gr G H G' H' → H' p = none → RpAll G' xs ds → Q (.ref p) (upd H' p (.lst xs))) → wE X e σ H Q
structure DT (e : Expr) (b : Bool) : Prop where
  run : ∀ {G0 H0 G H : Hp} {σ : L2.St}, St C G0 H0 G H σ env → ∀ Q : Bool → Hp → Prop, (∀ G' H', Gr G H G' H' → Q b H') → wT X e σ H Q
/-- items of a display -/
structure DA (es : List Expr) (ds : List PyData) : Prop where
  run : ∀ {G0 H0 G H : Hp} {σ : L2.St}, St C G0 H0 G H σ env → ∀ Q : List V → Hp → Prop, (∀ vs G' H', Gr G H G' H' → RpAll G' vs ds → Q vs H') → wA X es σ H Q
end
/-- arguments of a call -/
inductive ArgsOk (C : Addr) (G : Hp) : List V → List Sl → Prop
  | nil : ArgsOk C G [] []
  | v {v : V} {d : PyData} {vs : List V} {sl : List Sl} : Rp G v d → ArgsOk C G vs sl → ArgsOk C G (v :: vs) (.v d :: sl)
  | w {v : V} {n : Nat} {r : List (Nat × Nat)} {vs : List V} {sl : List Sl} : Rw C G v n r → ArgsOk C G vs sl → ArgsOk C G (v :: vs) (.web n r :: sl)
  | n {v : V} {vs : List V} {sl : List Sl} : ArgsOk C G vs sl → ArgsOk C G (v :: vs) (.no :: sl)
theorem ArgsOk.mono {C : Addr} {G G' : Hp} (e : Same G G') : ∀ {vs : List V} {sl : List Sl}, ArgsOk C G vs sl → ArgsOk C G' vs sl
  | _, _, .nil => .nil
  | _, _, .v h t => .v (h.mono e) (ArgsOk.mono e t)
  | _, _, .w h t => .w (h.mono e) (ArgsOk.mono e t)
  | _, _, .n t => .n (ArgsOk.mono e t)
structure DAs (X : Cx) (C : Addr) (env : DEnv) (es : List Expr) (sl : List Sl) : Prop where
  run : ∀ {G0 H0 G H : Hp} {σ : L2.St}, St C G0 H0 G H σ env → ∀ Q : List V → Hp → Prop, (∀ vs G' H', Gr G H G' H' → ArgsOk C G' vs sl → Q vs H') → wA X es σ H Q
section
variable {X : Cx} {C : Addr} {env : DEnv} {a b c e : Expr} {es : List Expr} {d x y z : PyData} {ds : List PyData} {pos p2 : Pos} {i j : Int} {n : Nat} {r : List (Nat × Nat)} {k : Bool}
theorem DE.dr (h : DE X C env e d) : DR X C env e d := .mk fun S Q q => h.run S Q fun v G' H' g rp => q v G' H' g (rp.mono g.i)
theorem DE.dl (h : DE X C env e (.list ds)) : DL X C env e ds := .mk fun S Q q => h.run S Q fun v G' H' g rp => by
  cases rp with
  | lst h1 h2 => exact q _ _ G' H' g (g.i _ _ h1) h2
theorem DL.dq (h : DL X C env e ds) : DQ X C env e ds := .mk fun S Q q => h.run S Q fun a xs G' H' g h1 h2 => q a xs G' H' g (.inl h1) h2
theorem DE.dq (h : DE X C env e (.tuple ds)) : DQ X C env e ds := .mk fun S Q q => h.run S Q fun v G' H' g rp => by
  cases rp with
  | tup h1 h2 => exact q _ _ G' H' g (.inr (g.i _ _ h1)) h2
theorem DE.dq' (h : DE X C env e (.list ds)) : DQ X C env e ds := h.dl.dq
theorem DL.dr (h : DL X C env e ds) : DR X C env e (.list ds) := .mk fun S Q q => h.run S Q fun a xs G' H' g h1 h2 => q _ G' H' g (.lst h1 (h2.mono g.i))
theorem DN.de (h : DN X C env e ds) : DE X C env e (.list ds) := .mk fun S Q q => h.run S Q fun p xs G' H' g h1 h2 => by
  have g2 := Gr.new (.lst xs) g.i h1
  exact q _ _ _ (g.trans g2) (.lst upd_same (h2.mono g2.g))
theorem DN.dl (h : DN X C env e ds) : DL X C env e ds := h.de.dl
/-! names, constants -/
theorem de_name {x : Str} {d : PyData} (s : Nat) (he : env[s]? = some (.v d) := by rfl) (hN : X.N[s]? = some x := by rfl) (hv : Vis X.env.scope x := by first | exact Or.inl rfl | exact Or.inr (Or.inl rfl) | exact Or.inr (Or.inr rfl))
    (hd : (x == ("__debug__" : Str)) = false := by decide) (hcd : (x == ("__classdict__" : Str)) = false := by decide) : DE X C env (.Name x pos) d := .mk fun S Q q => by
  obtain ⟨v, h1, h2⟩ := S.val he
  exact wE_of (pe_var hN hv hd hcd) ⟨v, h1, q v _ _ S.refl h2⟩
theorem dw_name {x : Str} (s : Nat) (he : env[s]? = some (.web n r) := by rfl) (hN : X.N[s]? = some x := by rfl) (hv : Vis X.env.scope x := by first | exact Or.inl rfl | exact Or.inr (Or.inl rfl) | exact Or.inr (Or.inr rfl))
    (hd : (x == ("__debug__" : Str)) = false := by decide) (hcd : (x == ("__classdict__" : Str)) = false := by decide) : DW X C env (.Name x pos) n r := .mk fun S Q q => by
  obtain ⟨v, h1, h2⟩ := S.web he
  exact wE_of (pe_var hN hv hd hcd) ⟨v, h1, q v _ _ S.refl h2⟩
theorem dl_name {x : Str} (s : Nat) (he : env[s]? = some (.mu ds) := by rfl) (hN : X.N[s]? = some x := by rfl) (hv : Vis X.env.scope x := by first | exact Or.inl rfl | exact Or.inr (Or.inl rfl) | exact Or.inr (Or.inr rfl))
    (hd : (x == ("__debug__" : Str)) = false := by decide) (hcd : (x == ("__classdict__" : Str)) = false := by decide) : DL X C env (.Name x pos) ds := .mk fun S Q q => by
  obtain ⟨a, xs, h1, h2, h3, h4⟩ := S.mu he
  exact wE_of (pe_var hN hv hd hcd) ⟨_, h1, q a xs _ _ S.refl h2 h4⟩
theorem de_int {k : Nat} : DE X C env (.Constant (.int i) k pos) (.int i) := .mk fun S Q q => wE_of pe_int (q _ _ _ S.refl (.int i))
theorem de_bl {b : Bool} {k : Nat} : DE X C env (.Constant (.bool b) k pos) (.bool b) := .mk fun S Q q => wE_of pe_bl (q _ _ _ S.refl (.bl b))
theorem de_non {k : Nat} : DE X C env (.Constant .none k pos) .none := .mk fun S Q q => wE_of pe_non (q _ _ _ S.refl .non)
theorem de_str {x : Str} {k : Nat} : DE X C env (.Constant (.str x) k pos) (.str x) := .mk fun S Q q => wE_of pe_str (q _ _ _ S.refl (.str x))
theorem de_globI {x : Str} {t : Tok} (hm : X.mg x = some (.int i t)) (hg : Gl X x := by rfl) (hd : (x == ("__debug__" : Str)) = false := by decide) : DE X C env (.Name x pos) (.int i) := .mk fun S Q q =>
  wE_of (pe_glob (v := .int i) hg hm ⟨t, rfl⟩ hd) (q _ _ _ S.refl (.int i))
theorem de_globS {x z : Str} {t : Tok} (hm : X.mg x = some (.str z t)) (hg : Gl X x := by rfl) (hd : (x == ("__debug__" : Str)) = false := by decide) : DE X C env (.Name x pos) (.str z) := .mk fun S Q q =>
  wE_of (pe_glob (v := .str z) hg hm ⟨t, rfl⟩ hd) (q _ _ _ S.refl (.str z))
/-! the web's fields -/
theorem de_many (cl : Cls X.K C) (na : NoAttr X.K C "many") (h : DW X C env e n r) (hb : attributeBase e "many" X.env (eval e X.env) = eval e X.env := by rfl) : DE X C env (.Attribute e "many" pos) (dI n) := .mk fun S Q q =>
  wE_of (pe_fld (wE_pe e) hb) (h.run S _ fun v G' H' g ⟨p, dx, rv, h1, h2, h3⟩ => ⟨p, C, dx, _, _, h1, g.i _ _ h2, cl, na, wf_many _ _, q _ G' H' g (.int _)⟩)
theorem de_rows (cl : Cls X.K C) (na : NoAttr X.K C "rows") (h : DW X C env e n r) (hb : attributeBase e "rows" X.env (eval e X.env) = eval e X.env := by rfl) : DE X C env (.Attribute e "rows" pos) (dRows r) := .mk fun S Q q =>
  wE_of (pe_fld (wE_pe e) hb) (h.run S _ fun v G' H' g ⟨p, dx, rv, h1, h2, h3⟩ => ⟨p, C, dx, _, _, h1, g.i _ _ h2, cl, na, wf_rows _ _, q _ G' H' g h3⟩)
/-! operators -/
def RD (K : PySem.W.Frag) (r : R2) (x y z : PyData) : Prop := ∀ (G H : Hp) (v w : V), Same G H → Rp G v x → Rp G w y → ∀ Q : VK, (∀ u G' H', Gr G H G' H' → Rp G' u z → Q u H') → r v w H Q
theorem de_op {op : Operator} {r : R2} (ho : OpR X (binaryOp op) r) (ha : DE X C env a x) (hb : DE X C env b y) (hr : RD X.K r x y z) : DE X C env (.BinOp a op b pos) z := .mk fun S Q q =>
  wE_of (pe_op ho (wE_pe a) (wE_pe b)) (ha.run S _ fun v G1 H1 g1 r1 => hb.run (S.grow g1) _ fun w G2 H2 g2 r2 => hr G2 H2 v w g2.i (r1.mono g2.g) r2 Q fun u G3 H3 g3 r3 => q u G3 H3 (g1.trans (g2.trans g3)) r3)
theorem de_add (ha : DE X C env a (.int i)) (hb : DE X C env b (.int j)) : DE X C env (.BinOp a .Add b pos) (.int (i + j)) :=
  de_op op_add ha hb fun G H v w s r1 r2 Q q => by cases r1; cases r2; exact ⟨i, j, rfl, rfl, q _ _ _ (Gr.refl s) (.int _)⟩
theorem de_sub (ha : DE X C env a (.int i)) (hb : DE X C env b (.int j)) : DE X C env (.BinOp a .Sub b pos) (.int (i - j)) :=
  de_op op_sub ha hb fun G H v w s r1 r2 Q q => by cases r1; cases r2; exact ⟨i, j, rfl, rfl, q _ _ _ (Gr.refl s) (.int _)⟩
theorem de_mul (ha : DE X C env a (.int i)) (hb : DE X C env b (.int j)) (hm : CMul i j) : DE X C env (.BinOp a .Mult b pos) (.int (i * j)) :=
  de_op op_mul ha hb fun G H v w s r1 r2 Q q => by cases r1; cases r2; exact ⟨i, j, rfl, rfl, hm, q _ _ _ (Gr.refl s) (.int _)⟩
theorem de_mod (ha : DE X C env a (.int i)) (hb : DE X C env b (.int j)) (hm : 0 < j) : DE X C env (.BinOp a .Mod b pos) (.int (i % j)) :=
  de_op op_mod ha hb fun G H v w s r1 r2 Q q => by cases r1; cases r2; exact ⟨i, j, rfl, rfl, hm, q _ _ _ (Gr.refl s) (.int _)⟩
theorem de_fdiv (ha : DE X C env a (.int i)) (hb : DE X C env b (.int j)) (hm : CDiv i j) : DE X C env (.BinOp a .FloorDiv b pos) (.int (i / j)) :=
  de_op op_fdiv ha hb fun G H v w s r1 r2 Q q => by cases r1; cases r2; exact ⟨i, j, rfl, rfl, hm, q _ _ _ (Gr.refl s) (.int _)⟩
theorem de_neg (ha : DE X C env a (.int i)) : DE X C env (.UnaryOp .USub a pos) (.int (-i)) := .mk fun S Q q =>
  wE_of (pe_un un_neg (wE_pe a)) (ha.run S _ fun v G1 H1 g1 r1 => by cases r1; exact ⟨i, rfl, q _ _ _ g1 (.int _)⟩)
theorem dn_cat {es : List PyData} (ha : DL X C env a ds) (hb : DL X C env b es) (hl : ds.length + es.length ≤ sizeLine) : DN X C env (.BinOp a .Add b pos) (ds ++ es) := .mk fun S Q q =>
  wE_of (pe_op op_cat (wE_pe a) (wE_pe b)) (ha.run S _ fun v xs G1 H1 g1 e1 r1 => hb.run (S.grow g1) _ fun w ys G2 H2 g2 e2 r2 =>
    ⟨v, w, xs, ys, rfl, rfl, g2.h _ _ e1, e2, by rw [r1.length, r2.length]; exact hl, fun p hp => q p _ G2 H2 (g1.trans g2) hp ((r1.mono g2.g).append r2)⟩)
theorem dn_rep1 (ha : DL X C env a [d]) (hb : DE X C env b (dI n)) (hl : n ≤ 100000) : DN X C env (.BinOp a .Mult b pos) (List.replicate n d) := .mk fun S Q q =>
  wE_of (pe_op op_rep (wE_pe a) (wE_pe b)) (ha.run S _ fun v xs G1 H1 g1 e1 r1 => hb.run (S.grow g1) _ fun w G2 H2 g2 r2 => by
    cases r2
    cases r1 with
    | cons r1 rn =>
      cases rn
      rename_i v1
      refine ⟨v, (n : Int), [v1], rfl, rfl, g2.h _ _ e1, by omega, by omega, ?_, fun p hp => ?_⟩
      · show 1 * ((n : Int)).toNat ≤ sizeLine
        rw [Int.toNat_natCast, sizeLine_eq]; omega
      · rw [Int.toNat_natCast]
        have e : ∀ m, (List.replicate m [v1]).flatten = List.replicate m v1 := fun m => by
          induction m with
          | zero => rfl
          | succ m ih => rw [List.replicate_succ, List.flatten_cons, ih]; rfl
        rw [e]
        exact q p _ G2 H2 (g1.trans g2) hp (RpAll.rep (r1.mono g2.g) n))
theorem de_catT {es : List PyData} (ha : DE X C env a (.tuple ds)) (hb : DE X C env b (.tuple es)) (hl : ds.length + es.length ≤ sizeLine) : DE X C env (.BinOp a .Add b pos) (.tuple (ds ++ es)) :=
  de_op op_catA ha hb fun G H v w s r1 r2 Q q => by
    cases r1 with
    | tup e1 r1 =>
      cases r2 with
      | tup e2 r2 =>
        refine ⟨_, _, _, _, rfl, rfl, SqT.of (s _ _ e1), SqT.of (s _ _ e2), by rw [r1.length, r2.length]; exact hl, fun z => ?_, fun _ z => ?_, fun _ _ p hp => ?_⟩
        · subst z; cases r1; exact q _ _ _ (Gr.refl s) (.tup e2 r2)
        · subst z; cases r2; rw [List.append_nil] at q; exact q _ _ _ (Gr.refl s) (.tup e1 r1)
        · exact q _ _ _ (Gr.new _ s hp) (.tup upd_same ((r1.append r2).mono (same_new (s.free hp) _)))
/-! displays -/
theorem da_nil : DA X C env [] [] := .mk fun S Q q => wA_of pa_nil (q _ _ _ S.refl .nil)
theorem da_cons (h : DE X C env e d) (ht : DA X C env es ds) (hs : starEach (e :: es) X.env = (false, eval e X.env) :: starEach es X.env := by rfl) : DA X C env (e :: es) (d :: ds) := .mk fun S Q q =>
  wA_of (pa_cons (wE_pe e) (wA_pa es) hs) (h.run S _ fun v G1 H1 g1 r1 => ht.run (S.grow g1) _ fun vs G2 H2 g2 r2 => q _ G2 H2 (g1.trans g2) (.cons (r1.mono g2.g) r2))
theorem da_star {xs : List PyData} {p : Pos} (h : DQ X C env e xs) (ht : DA X C env es ds) (hs : starEach (.Starred e p :: es) X.env = (true, eval e X.env) :: starEach es X.env := by rfl) : DA X C env (.Starred e p :: es) (xs ++ ds) := .mk fun S Q q =>
  wA_of (StX.pa_star (wE_pe e) (wA_pa es) hs) (h.run S _ fun a ys G1 H1 g1 e1 r1 => ⟨a, ys, rfl, e1.symm.imp SqT.of SqL.of, ht.run (S.grow g1) _ fun vs G2 H2 g2 r2 => q _ G2 H2 (g1.trans g2) ((r1.mono g2.g).append r2)⟩)
theorem de_tup {k : Nat} (h : DA X C env es ds) (hl : ds.length ≤ sizeLine := by exact Nat.le_trans (m := 100) (Nat.le_of_ble_eq_true rfl) (by decide)) : DE X C env (.Tuple es k pos) (.tuple ds) := .mk fun S Q q =>
  wE_of (pe_tup (wA_pa es)) (h.run S _ fun vs G1 H1 g1 r1 => ⟨by rw [r1.length]; exact hl, fun p hp => by
    have g := Gr.new (.tup vs) g1.i hp
    exact q _ _ _ (g1.trans g) (.tup upd_same (r1.mono g.g))⟩)
theorem dn_lst (h : DA X C env es ds) (hl : ds.length ≤ sizeLine := by exact Nat.le_trans (m := 100) (Nat.le_of_ble_eq_true rfl) (by decide)) : DN X C env (.List es pos) ds := .mk fun S Q q =>
  wE_of (pe_lst (wA_pa es)) (h.run S _ fun vs G1 H1 g1 r1 => ⟨by rw [r1.length]; exact hl, fun p hp => q p vs G1 H1 g1 hp r1⟩)
theorem dn_nil : DN X C env (.List [] pos) [] := dn_lst da_nil
/-! subscripts -/
theorem atI_rp {H : Hp} {vs : List V} {ds : List PyData} {j : Int} {d : PyData} (h : RpAll H vs ds) (e : atI ds j = some d) : ∃ v, atI vs j = some v ∧ Rp H v d := by
  unfold atI at e ⊢
  rw [h.length]
  cases e1 : ixN ds.length j with
  | none => rw [e1] at e; cases e
  | some k =>
    rw [e1] at e
    obtain ⟨v, h1, h2⟩ := h.get (i := k) (d := d) e
    exact ⟨v, h1, h2⟩
theorem de_ixL (ha : DL X C env a ds) (hb : DE X C env b (.int j)) (hi : atI ds j = some d) (hs : PlainIx b := by intro _ _; rfl) : DE X C env (.Subscript a b pos) d := .mk fun S Q q =>
  wE_of (pe_ix ix_list (wE_pe a) (wE_pe b) hs) (ha.run S _ fun v xs G1 H1 g1 e1 r1 => hb.run (S.grow g1) _ fun w G2 H2 g2 r2 => by
    cases r2
    obtain ⟨u, h1, h2⟩ := atI_rp r1 hi
    exact ⟨v, xs, j, u, rfl, rfl, SqL.of (g2.h _ _ e1), h1, q _ _ _ (g1.trans g2) (h2.mono g2.g)⟩)
theorem de_ixT (ha : DE X C env a (.tuple ds)) (hb : DE X C env b (.int j)) (hi : atI ds j = some d) (hs : PlainIx b := by intro _ _; rfl) : DE X C env (.Subscript a b pos) d := .mk fun S Q q =>
  wE_of (pe_ix ix_tup (wE_pe a) (wE_pe b) hs) (ha.run S _ fun v G1 H1 g1 r1 => hb.run (S.grow g1) _ fun w G2 H2 g2 r2 => by
    cases r2
    cases r1 with
    | tup e1 r1 =>
      obtain ⟨u, h1, h2⟩ := atI_rp r1 hi
      exact ⟨_, _, j, u, rfl, rfl, SqT.of (g2.i _ _ (g2.g _ _ e1)), h1, q _ _ _ (g1.trans g2) (h2.mono g2.g)⟩)
/-! slices -/
def cutD (xs : List PyData) (lo hi : Option Int) : List PyData := (xs.drop (HT.sIx xs.length 0 lo)).take (HT.sIx xs.length xs.length hi - HT.sIx xs.length 0 lo)
theorem RpAll.cut {H : Hp} {vs : List V} {ds : List PyData} (h : RpAll H vs ds) (lo hi : Option Int) : RpAll H (cutV vs lo hi) (cutD ds lo hi) := by
  unfold cutV cutD
  rw [h.length]
  exact (h.drop _).take _
def DO (X : Cx) (C : Addr) (env : DEnv) (e : Option Expr) (o : Option Int) : Prop := match e, o with
  | none, none => True
  | some e, some i => DE X C env e (.int i)
  | _, _ => False
theorem dn_sliceL {lo hi : Option Expr} {l h : Option Int} (ha : DL X C env a ds) (hl : DO X C env lo l) (hh : DO X C env hi h) : DN X C env (.Subscript a (.Slice lo hi none p2) pos) (cutD ds l h) := .mk fun S Q q => by
  have fin : ∀ (v : Addr) (xs : List V) (G1 H1 G2 H2 : Hp), Gr _ _ G1 H1 → H1 v = some (.lst xs) → RpAll G1 xs ds → Gr G1 H1 G2 H2 → rSlL X.K (.ref v) l h H2 Q := fun v xs G1 H1 G2 H2 g1 e1 r1 g2 =>
    ⟨v, xs, rfl, SqL.of (g2.h _ _ e1), fun p hp => q p _ G2 H2 (g1.trans g2) hp ((r1.mono g2.g).cut l h)⟩
  match lo, l, hi, h, hl, hh with
  | none, none, none, none, _, _ => exact wE_of (pe_slice sl_list (wE_pe a) po_none po_none) (ha.run S _ fun v xs G1 H1 g1 e1 r1 => fin v xs G1 H1 _ _ g1 e1 r1 (Gr.refl g1.i))
  | some lo, some l, none, none, hl, _ => exact wE_of (pe_slice sl_list (wE_pe a) (po_some (wE_pe lo)) po_none) (ha.run S _ fun v xs G1 H1 g1 e1 r1 => hl.run (S.grow g1) _ fun w G2 H2 g2 r2 => by cases r2; exact ⟨l, rfl, fin v xs G1 H1 G2 H2 g1 e1 r1 g2⟩)
  | none, none, some hi, some h, _, hh => exact wE_of (pe_slice sl_list (wE_pe a) po_none (po_some (wE_pe hi))) (ha.run S _ fun v xs G1 H1 g1 e1 r1 => hh.run (S.grow g1) _ fun w G2 H2 g2 r2 => by cases r2; exact ⟨h, rfl, fin v xs G1 H1 G2 H2 g1 e1 r1 g2⟩)
  | some lo, some l, some hi, some h, hl, hh => exact wE_of (pe_slice sl_list (wE_pe a) (po_some (wE_pe lo)) (po_some (wE_pe hi))) (ha.run S _ fun v xs G1 H1 g1 e1 r1 => hl.run (S.grow g1) _ fun w G2 H2 g2 r2 => by
      cases r2; exact ⟨l, rfl, hh.run (S.grow (g1.trans g2)) _ fun w G3 H3 g3 r3 => by cases r3; exact ⟨h, rfl, fin v xs G1 H1 G3 H3 g1 e1 r1 (g2.trans g3)⟩⟩)
theorem de_sliceT {lo hi : Option Expr} {l h : Option Int} (ha : DE X C env a (.tuple ds)) (hl : DO X C env lo l) (hh : DO X C env hi h) : DE X C env (.Subscript a (.Slice lo hi none p2) pos) (.tuple (cutD ds l h)) := .mk fun S Q q => by
  have fin : ∀ (v : V) (G1 H1 G2 H2 : Hp), Gr _ _ G1 H1 → Rp G1 v (.tuple ds) → Gr G1 H1 G2 H2 → rSlA X.K v l h H2 Q := fun v G1 H1 G2 H2 g1 r1 g2 => by
    cases r1 with
    | tup e1 r1 =>
      rename_i v xs
      refine ⟨v, xs, rfl, SqT.of (g2.i _ _ (g2.g _ _ e1)), fun ⟨z1, z2⟩ => ?_, fun _ p hp => ?_⟩
      · have e : cutD ds l h = ds := by
          unfold cutD
          rw [← r1.length, z1, z2, List.drop_zero, Nat.sub_zero, List.take_of_length_le (by rw [r1.length]; exact Nat.le_refl _)]
        rw [e] at q
        exact q _ _ _ (g1.trans g2) (.tup (g2.g _ _ e1) (r1.mono g2.g))
      · have g := Gr.new (.tup (cutV xs l h)) g2.i hp
        exact q _ _ _ (g1.trans (g2.trans g)) (.tup upd_same (((r1.mono g2.g).cut l h).mono g.g))
  match lo, l, hi, h, hl, hh with
  | none, none, none, none, _, _ => exact wE_of (pe_slice sl_tupA (wE_pe a) po_none po_none) (ha.run S _ fun v G1 H1 g1 r1 => fin v G1 H1 _ _ g1 r1 (Gr.refl g1.i))
  | some lo, some l, none, none, hl, _ => exact wE_of (pe_slice sl_tupA (wE_pe a) (po_some (wE_pe lo)) po_none) (ha.run S _ fun v G1 H1 g1 r1 => hl.run (S.grow g1) _ fun w G2 H2 g2 r2 => by cases r2; exact ⟨l, rfl, fin v G1 H1 G2 H2 g1 r1 g2⟩)
  | none, none, some hi, some h, _, hh => exact wE_of (pe_slice sl_tupA (wE_pe a) po_none (po_some (wE_pe hi))) (ha.run S _ fun v G1 H1 g1 r1 => hh.run (S.grow g1) _ fun w G2 H2 g2 r2 => by cases r2; exact ⟨h, rfl, fin v G1 H1 G2 H2 g1 r1 g2⟩)
  | some lo, some l, some hi, some h, hl, hh => exact wE_of (pe_slice sl_tupA (wE_pe a) (po_some (wE_pe lo)) (po_some (wE_pe hi))) (ha.run S _ fun v G1 H1 g1 r1 => hl.run (S.grow g1) _ fun w G2 H2 g2 r2 => by
      cases r2; exact ⟨l, rfl, hh.run (S.grow (g1.trans g2)) _ fun w G3 H3 g3 r3 => by cases r3; exact ⟨h, rfl, fin v G1 H1 G3 H3 g1 r1 (g2.trans g3)⟩⟩)
theorem dn_rev {k : Nat} {p1 p3 p4 : Pos} (ha : DL X C env a ds) : DN X C env (.Subscript a (.Slice none none (some (.UnaryOp .USub (.Constant (.int 1) k p1) p2)) p3) pos) ds.reverse := .mk fun S Q q =>
  wE_of (pe_revL (wE_pe a)) (ha.run S _ fun v xs G1 H1 g1 e1 r1 => ⟨v, xs, rfl, SqL.of e1, fun p hp => q p _ G1 H1 g1 hp r1.rev⟩)
/-! comparisons -/
def DC (X : Cx) (C : Addr) (env : DEnv) (a : Expr) (op : CmpOp) (b : Expr) (k : Bool) : Prop := ∃ r, OpR X (compareOp op) r ∧ behindInMarks op b = false ∧
  ∀ {G0 H0 G H : Hp} {σ : L2.St}, St C G0 H0 G H σ env → ∀ Q : VK, (∀ G' H', Gr G H G' H' → Q (.bl k) H') → tOp r (wE X a) (wE X b) σ H Q
theorem de_cmp {op : CmpOp} (h : DC X C env a op b k) : DE X C env (.Compare a [op] [b] pos) (.bool k) := .mk fun S Q q => by
  obtain ⟨r, h1, h2, h3⟩ := h
  exact wE_of (pe_cmpR h1 (wE_pe a) (wE_pe b) h2) (h3 S Q fun G' H' g => q _ G' H' g (.bl k))
theorem dt_cmp {op : CmpOp} (h : DC X C env a op b k) : DT X C env (.Compare a [op] [b] pos) k := .mk fun S Q q => by
  obtain ⟨r, h1, h2, h3⟩ := h
  exact wT_of (pt_cmpR h1 (wE_pe a) (wE_pe b) h2) (h3 S _ fun G' H' g => ⟨k, rfl, q G' H' g⟩)
theorem dc_of {op : CmpOp} {r : R2} (ho : OpR X (compareOp op) r) (hm : behindInMarks op b = false) (ha : DR X C env a x) (hb : DR X C env b y)
    (hr : ∀ (H : Hp) (v w : V), Rp H v x → Rp H w y → ∀ Q : VK, Q (.bl k) H → r v w H Q) : DC X C env a op b k :=
  ⟨r, ho, hm, fun S Q q => ha.run S _ fun v G1 H1 g1 r1 => hb.run (S.grow g1) _ fun w G2 H2 g2 r2 => hr H2 v w (r1.mono g2.h) r2 Q (q G2 H2 (g1.trans g2))⟩
theorem dc_lt (ha : DE X C env a (.int i)) (hb : DE X C env b (.int j)) : DC X C env a .Lt b (decide (i < j)) := dc_of op_lt (nomark _) ha.dr hb.dr fun H v w r1 r2 Q q => by cases r1; cases r2; exact ⟨i, j, rfl, rfl, q⟩
theorem dc_le (ha : DE X C env a (.int i)) (hb : DE X C env b (.int j)) : DC X C env a .LtE b (decide (i ≤ j)) := dc_of op_le (nomark _) ha.dr hb.dr fun H v w r1 r2 Q q => by cases r1; cases r2; exact ⟨i, j, rfl, rfl, q⟩
theorem dc_gt (ha : DE X C env a (.int i)) (hb : DE X C env b (.int j)) : DC X C env a .Gt b (decide (j < i)) := dc_of op_gt (nomark _) ha.dr hb.dr fun H v w r1 r2 Q q => by cases r1; cases r2; exact ⟨i, j, rfl, rfl, q⟩
theorem dc_ge (ha : DE X C env a (.int i)) (hb : DE X C env b (.int j)) : DC X C env a .GtE b (decide (j ≤ i)) := dc_of op_ge (nomark _) ha.dr hb.dr fun H v w r1 r2 Q q => by cases r1; cases r2; exact ⟨i, j, rfl, rfl, q⟩
theorem dc_eqI (ha : DE X C env a (.int i)) (hb : DE X C env b (.int j)) : DC X C env a .Eq b (decide (i = j)) := dc_of op_eq (nomark _) ha.dr hb.dr fun H v w r1 r2 Q q => by
  cases r1; cases r2
  refine ⟨rfl, ?_⟩
  have e : decide (V.int i = V.int j) = decide (i = j) := by rw [dec_int]; exact Bool.beq_eq_decide_eq _ _
  rw [e]; exact q
theorem dc_neI (ha : DE X C env a (.int i)) (hb : DE X C env b (.int j)) : DC X C env a .NotEq b (!decide (i = j)) := dc_of op_ne (nomark _) ha.dr hb.dr fun H v w r1 r2 Q q => by
  cases r1; cases r2
  refine ⟨rfl, ?_⟩
  have e : decide (V.int i = V.int j) = decide (i = j) := by rw [dec_int]; exact Bool.beq_eq_decide_eq _ _
  rw [e]; exact q
theorem dc_eqB {i j : Bool} (ha : DE X C env a (.bool i)) (hb : DE X C env b (.bool j)) : DC X C env a .Eq b (i == j) := dc_of op_eq (nomark _) ha.dr hb.dr fun H v w r1 r2 Q q => by
  cases r1; cases r2
  refine ⟨rfl, ?_⟩
  rw [dec_bl]; exact q
theorem dc_neB {i j : Bool} (ha : DE X C env a (.bool i)) (hb : DE X C env b (.bool j)) : DC X C env a .NotEq b (!(i == j)) := dc_of op_ne (nomark _) ha.dr hb.dr fun H v w r1 r2 Q q => by
  cases r1; cases r2
  refine ⟨rfl, ?_⟩
  rw [dec_bl]; exact q
theorem dc_eqS {i j : Str} (ha : DE X C env a (.str i)) (hb : DE X C env b (.str j)) : DC X C env a .Eq b (i == j) := dc_of op_eq (nomark _) ha.dr hb.dr fun H v w r1 r2 Q q => by
  cases r1; cases r2
  refine ⟨rfl, ?_⟩
  rw [dec_str]; exact q
/-- data -/
theorem dc_eq (hu : X.A.units + 64 < cLine) (ha : DR X C env a x) (hb : DR X C env b y) (s1 : SeqAt.shaped x = true) (s2 : SeqAt.shaped y = true) (hk : PyData.eqv x y = k) : DC X C env a .Eq b k :=
  dc_of (op_eqD hu) (nomark _) ha hb fun H v w r1 r2 Q q => ⟨x, y, r1.dp _, r2.dp _, s1, s2, by rw [hk]; exact q⟩
theorem dc_ne (hu : X.A.units + 64 < cLine) (ha : DR X C env a x) (hb : DR X C env b y) (s1 : SeqAt.shaped x = true) (s2 : SeqAt.shaped y = true) (hk : (!PyData.eqv x y) = k) : DC X C env a .NotEq b k :=
  dc_of (op_neD hu) (nomark _) ha hb fun H v w r1 r2 Q q => ⟨x, y, r1.dp _, r2.dp _, s1, s2, by rw [hk]; exact q⟩
theorem dc_inL (hu : X.A.units + 65 < cLine) (ha : DR X C env a x) (hb : DR X C env b (.list ds)) (s1 : SeqAt.shaped x = true) (s2 : SeqAt.shaped (.list ds) = true) (hk : (ds.any fun z => PyData.eqv z x) = k) (hm : behindInMarks .In b = false := by with_unfolding_all rfl) : DC X C env a .In b k :=
  dc_of (op_inD hu) hm ha hb fun H v w r1 r2 Q q => ⟨x, ds, r1.dp _, r2.dp _, s1, s2, by rw [hk]; exact q⟩
theorem dc_notInL (hu : X.A.units + 65 < cLine) (ha : DR X C env a x) (hb : DR X C env b (.list ds)) (s1 : SeqAt.shaped x = true) (s2 : SeqAt.shaped (.list ds) = true) (hk : (!ds.any fun z => PyData.eqv z x) = k) (hm : behindInMarks .NotIn b = false := by with_unfolding_all rfl) : DC X C env a .NotIn b k :=
  dc_of (op_notInD hu) hm ha hb fun H v w r1 r2 Q q => ⟨x, ds, r1.dp _, r2.dp _, s1, s2, by rw [hk]; exact q⟩
/-- an int in a row of ints -/
theorem inV_ints (i : Int) (ns : List Int) : inV (.int i) (ns.map V.int) = ns.contains i := by
  unfold inV
  rw [List.any_map, List.contains_eq_any_beq]
  congr 1
  funext y
  show (decide (y = i) : Bool) = (i == y)
  rw [Bool.beq_eq_decide_eq]
  exact decide_eq_decide.mpr ⟨Eq.symm, Eq.symm⟩
theorem flat_ints (ns : List Int) : (ns.map V.int).all flatV = true := by
  rw [List.all_map]; exact List.all_eq_true.mpr fun _ _ => rfl
theorem dc_inI {ns : List Int} (ha : DE X C env a (.int i)) (hb : DQ X C env b (ns.map .int)) (hm : behindInMarks .In b = false := by with_unfolding_all rfl) : DC X C env a .In b (ns.contains i) :=
  ⟨_, op_in_seq, hm, fun S Q q => ha.run S _ fun v G1 H1 g1 r1 => hb.run (S.grow g1) _ fun w ys G2 H2 g2 e2 r2 => by
    cases r1
    have e := r2.ints
    subst e
    refine ⟨w, _, rfl, e2.imp SqL.of SqT.of, rfl, flat_ints ns, ?_⟩
    rw [inV_ints]
    exact q G2 H2 (g1.trans g2)⟩
theorem dc_notInI {ns : List Int} (ha : DE X C env a (.int i)) (hb : DQ X C env b (ns.map .int)) (hm : behindInMarks .NotIn b = false := by with_unfolding_all rfl) : DC X C env a .NotIn b (!ns.contains i) :=
  ⟨_, op_notIn_seq, hm, fun S Q q => ha.run S _ fun v G1 H1 g1 r1 => hb.run (S.grow g1) _ fun w ys G2 H2 g2 e2 r2 => by
    cases r1
    have e := r2.ints
    subst e
    refine ⟨w, _, rfl, e2.imp SqL.of SqT.of, rfl, flat_ints ns, ?_⟩
    rw [inV_ints]
    exact q G2 H2 (g1.trans g2)⟩
def isNone : PyData → Bool
  | .none => true
  | _ => false
theorem rp_none {H : Hp} {v : V} {d : PyData} (h : Rp H v d) : decide (v = .non) = isNone d := by cases h <;> rfl
theorem dc_isN {k' : Nat} (ha : DE X C env a x) : DC X C env a .Is (.Constant .none k' p2) (isNone x) := dc_of op_isN (nomark _) ha.dr de_non.dr fun H v w r1 r2 Q q => by
  cases r2; exact ⟨rfl, by rw [rp_none r1]; exact q⟩
theorem dc_notN {k' : Nat} (ha : DE X C env a x) : DC X C env a .IsNot (.Constant .none k' p2) (!isNone x) := dc_of op_notN (nomark _) ha.dr de_non.dr fun H v w r1 r2 Q q => by
  cases r2; exact ⟨rfl, by rw [rp_none r1]; exact q⟩
/-- low <= x <= high -/
theorem le_rd {i j : Int} {H : Hp} {Q : VK} (q : Q (.bl (decide (i ≤ j))) H) : (rI0 fun i j => .bl (decide (i ≤ j))) (.int i) (.int j) H Q := ⟨i, j, rfl, rfl, q⟩
theorem de_chain {l m : Int} (ha : DE X C env a (.int l)) (hb : DE X C env b (.int m)) (hc : DE X C env c (.int i)) (hm : lastMarks [.LtE, .LtE] [b, c] = false := by with_unfolding_all rfl) : DE X C env (.Compare a [.LtE, .LtE] [b, c] pos) (.bool (decide (l ≤ m) && decide (m ≤ i))) := .mk fun S Q q =>
  wE_of (pe_chain op_le op_le (wE_pe a) (wE_pe b) (wE_pe c) (hm := hm)) (ha.run S _ fun v G1 H1 g1 r1 => hb.run (S.grow g1) _ fun w G2 H2 g2 r2 => by
    cases r1; cases r2
    refine ⟨l, m, rfl, rfl, decide (l ≤ m), rfl, ?_⟩
    cases e : decide (l ≤ m) with
    | false => rw [e] at q; exact q _ _ _ (g1.trans g2) (.bl _)
    | true => rw [e] at q; exact hc.run (S.grow (g1.trans g2)) _ fun u G3 H3 g3 r3 => by cases r3; exact ⟨m, i, rfl, rfl, q _ _ _ (g1.trans (g2.trans g3)) (.bl _)⟩)
theorem dt_val (h : DE X C env e (.bool k)) (he : ∀ whole, isTrue e X.env whole = (do let v ← whole; standAt e.pos; holding [v] (truthy v)) := by intro _; rfl) : DT X C env e k := .mk fun S Q q =>
  wT_of (pt_val (wE_pe e) he) (h.run S _ fun v G' H' g r => by cases r; exact ⟨k, rfl, q G' H' g⟩)
theorem dt_chain {l m : Int} (ha : DE X C env a (.int l)) (hb : DE X C env b (.int m)) (hc : DE X C env c (.int i)) (hm : lastMarks [.LtE, .LtE] [b, c] = false := by with_unfolding_all rfl) : DT X C env (.Compare a [.LtE, .LtE] [b, c] pos) (decide (l ≤ m) && decide (m ≤ i)) := .mk fun S Q q =>
  wT_of (pt_chain op_le op_le (wE_pe a) (wE_pe b) (wE_pe c) (hm := hm)) (ha.run S _ fun v G1 H1 g1 r1 => hb.run (S.grow g1) _ fun w G2 H2 g2 r2 => by
    cases r1; cases r2
    refine ⟨l, m, rfl, rfl, decide (l ≤ m), rfl, ?_⟩
    cases e : decide (l ≤ m) with
    | false => rw [e] at q; exact ⟨_, rfl, q _ _ (g1.trans g2)⟩
    | true => rw [e] at q; exact hc.run (S.grow (g1.trans g2)) _ fun u G3 H3 g3 r3 => by cases r3; exact ⟨m, i, rfl, rfl, _, rfl, q _ _ (g1.trans (g2.trans g3))⟩)
/-! and, or, not, if -/
def DPW (X : Cx) (C : Addr) (env : DEnv) (e : Expr) (b : Bool) : Prop := ∃ t, PW X e t ∧ ∀ {G0 H0 G H : Hp} {σ : L2.St}, St C G0 H0 G H σ env → ∀ Q : Bool → Hp → Prop, (∀ G' H', Gr G H G' H' → Q b H') → t σ H Q
theorem DPW.dt (h : DPW X C env e k) : DT X C env e k := .mk fun S Q q => let ⟨_, h1, h2⟩ := h; wT_of h1.pt (h2 S Q q)
theorem dw_and1 (h : DT X C env a k) : DPW X C env (.BoolOp .And [a] pos) k := ⟨_, pw_and1 (wT_pt a), fun S Q q => h.run S Q q⟩
theorem dw_or1 (h : DT X C env a k) : DPW X C env (.BoolOp .Or [a] pos) k := ⟨_, pw_or1 (wT_pt a), fun S Q q => h.run S Q q⟩
theorem dw_and {k' : Bool} (h : DT X C env a k) (h2 : DPW X C env (.BoolOp .And (b :: es) pos) k') : DPW X C env (.BoolOp .And (a :: b :: es) pos) (k && k') := by
  obtain ⟨t, p, q'⟩ := h2
  refine ⟨_, pw_and (wT_pt a) p, fun S Q q => h.run S _ fun G1 H1 g1 => ?_⟩
  cases k with
  | true => exact q' (S.grow g1) Q fun G2 H2 g2 => q G2 H2 (g1.trans g2)
  | false => exact q G1 H1 g1
/-- the second is asked only where the first holds -/
theorem dw_and' {k' : Bool} (h : DT X C env a true) (h2 : DPW X C env (.BoolOp .And (b :: es) pos) k') : DPW X C env (.BoolOp .And (a :: b :: es) pos) k' := dw_and (k := true) h h2
theorem pw_ex (rest : List Expr) : ∀ (op : BoolOp) (a : Expr), ∃ t, PW X (.BoolOp op (a :: rest) pos) t := by
  induction rest with
  | nil => intro op a; cases op with
    | And => exact ⟨_, pw_and1 (wT_pt a)⟩
    | Or => exact ⟨_, pw_or1 (wT_pt a)⟩
  | cons b rest ih => intro op a; obtain ⟨t, h⟩ := ih op b; cases op with
    | And => exact ⟨_, pw_and (wT_pt a) h⟩
    | Or => exact ⟨_, pw_or (wT_pt a) h⟩
theorem dw_andF (h : DT X C env a false) : DPW X C env (.BoolOp .And (a :: b :: es) pos) false := by
  obtain ⟨t, p⟩ := pw_ex (X := X) (pos := pos) es .And b
  exact ⟨_, pw_and (wT_pt a) p, fun S Q q => h.run S _ fun G1 H1 g1 => q G1 H1 g1⟩
theorem dw_or {k' : Bool} (h : DT X C env a k) (h2 : DPW X C env (.BoolOp .Or (b :: es) pos) k') : DPW X C env (.BoolOp .Or (a :: b :: es) pos) (k || k') := by
  obtain ⟨t, p, q'⟩ := h2
  refine ⟨_, pw_or (wT_pt a) p, fun S Q q => h.run S _ fun G1 H1 g1 => ?_⟩
  cases k with
  | false => exact q' (S.grow g1) Q fun G2 H2 g2 => q G2 H2 (g1.trans g2)
  | true => exact q G1 H1 g1
theorem dw_orT (h : DT X C env a true) : DPW X C env (.BoolOp .Or (a :: b :: es) pos) true := by
  obtain ⟨t, p⟩ := pw_ex (X := X) (pos := pos) es .Or b
  exact ⟨_, pw_or (wT_pt a) p, fun S Q q => h.run S _ fun G1 H1 g1 => q G1 H1 g1⟩
theorem dt_not (h : DT X C env a k) : DT X C env (.UnaryOp .Not a pos) (!k) := .mk fun S Q q => wT_of (pt_not (wT_pt a)) (h.run S _ fun G1 H1 g1 => q G1 H1 g1)
theorem de_not (h : DE X C env a (.bool k)) : DE X C env (.UnaryOp .Not a pos) (.bool (!k)) := .mk fun S Q q => wE_of (pe_not (wE_pe a)) (h.run S _ fun v G1 H1 g1 r => by cases r; exact ⟨k, rfl, q _ G1 H1 g1 (.bl _)⟩)
theorem de_one {op : BoolOp} (h : DE X C env a d) : DE X C env (.BoolOp op [a] pos) d := .mk fun S Q q => wE_of (pe_one (wE_pe a)) (h.run S Q q)
theorem de_and {k' : Bool} (h : DE X C env a (.bool k)) (h2 : k = true → DE X C env (.BoolOp .And (b :: es) pos) (.bool k')) : DE X C env (.BoolOp .And (a :: b :: es) pos) (.bool (k && k')) := .mk fun S Q q =>
  wE_of (pe_and (wE_pe a) (wE_pe _)) (h.run S _ fun v G1 H1 g1 r => by
    cases r
    refine ⟨k, rfl, ?_⟩
    cases k with
    | true => exact (h2 rfl).run (S.grow g1) _ fun v2 G2 H2 g2 r2 => q _ G2 H2 (g1.trans g2) r2
    | false => exact q _ G1 H1 g1 (.bl _))
theorem de_or {k' : Bool} (h : DE X C env a (.bool k)) (h2 : k = false → DE X C env (.BoolOp .Or (b :: es) pos) (.bool k')) : DE X C env (.BoolOp .Or (a :: b :: es) pos) (.bool (k || k')) := .mk fun S Q q =>
  wE_of (pe_or (wE_pe a) (wE_pe _)) (h.run S _ fun v G1 H1 g1 r => by
    cases r
    refine ⟨k, rfl, ?_⟩
    cases k with
    | false => exact (h2 rfl).run (S.grow g1) _ fun v2 G2 H2 g2 r2 => q _ G2 H2 (g1.trans g2) r2
    | true => exact q _ G1 H1 g1 (.bl _))
theorem de_if (hc : DT X C env c k) (h1 : k = true → DE X C env a d) (h2 : k = false → DE X C env b d) : DE X C env (.IfExp c a b pos) d := .mk fun S Q q =>
  wE_of (pe_ifExp (wT_pt c) (wE_pe a) (wE_pe b)) (hc.run S _ fun G1 H1 g1 => by
    cases k with
    | true => exact (h1 rfl).run (S.grow g1) _ fun v2 G2 H2 g2 r2 => q _ G2 H2 (g1.trans g2) r2
    | false => exact (h2 rfl).run (S.grow g1) _ fun v2 G2 H2 g2 r2 => q _ G2 H2 (g1.trans g2) r2)
end
end TD
namespace TD
open PySem L2
/-! ### calls of the text's defs -/
def spD (C : Addr) (R : List Sl → PyData → Prop) : Sp := fun vs H Q _ => ∃ (G : Hp) (sl : List Sl) (d : PyData), Same G H ∧ ArgsOk C G vs sl ∧ R sl d ∧ ∀ v G' H', Gr G H G' H' → Rp G' v d → Q v H'
structure DFn (P : Program) (w : World) (K : PySem.W.Frag) (mg : Str → Option Value) (base : Heap) (C : Addr) (x : Str) (k : Nat) (R : List Sl → PyData → Prop) : Prop where
  ex : ∃ f fd ps, FnOk P w K mg base CX0 k f fd ps (spD C R) ∧ mg x = some (.ref f) ∧ PySem.W.keepIn K (.ref f) = true ∧ Binds K fd ps []
section
variable {X : Cx} {C : Addr} {env : DEnv} {a b c e : Expr} {es : List Expr} {d x y z : PyData} {ds : List PyData} {sl : List Sl} {p pos p2 : Pos} {i j : Int} {n : Nat} {r : List (Nat × Nat)} {k : Nat}
theorem das_nil : DAs X C env [] [] := .mk fun S Q q => wA_of pa_nil (q _ _ _ S.refl .nil)
theorem das_v (h : DE X C env e d) (ht : DAs X C env es sl) (hs : starEach (e :: es) X.env = (false, eval e X.env) :: starEach es X.env := by rfl) : DAs X C env (e :: es) (.v d :: sl) := .mk fun S Q q =>
  wA_of (pa_cons (wE_pe e) (wA_pa es) hs) (h.run S _ fun v G1 H1 g1 r1 => ht.run (S.grow g1) _ fun vs G2 H2 g2 r2 => q _ G2 H2 (g1.trans g2) (.v (r1.mono g2.g) r2))
theorem das_w (h : DW X C env e n r) (ht : DAs X C env es sl) (hs : starEach (e :: es) X.env = (false, eval e X.env) :: starEach es X.env := by rfl) : DAs X C env (e :: es) (.web n r :: sl) := .mk fun S Q q =>
  wA_of (pa_cons (wE_pe e) (wA_pa es) hs) (h.run S _ fun v G1 H1 g1 r1 => ht.run (S.grow g1) _ fun vs G2 H2 g2 r2 => q _ G2 H2 (g1.trans g2) (.w (r1.mono g2.g) r2))
theorem de_call {x : Str} {R : List Sl → PyData → Prop} (F : DFn X.prog X.w X.K X.mg X.base C x k R) (hr : Room k X.A) (ha : DAs X C env (e :: es) sl) (hR : R sl d) (hg : Gl X x := by rfl)
    (hdb : (x == ("__debug__" : Str)) = false := by decide) (he : starEach (e :: es) X.env = (false, eval e X.env) :: starEach es X.env := by rfl) (hpl : (backTo pos (starEach es X.env)).any (·.1) = false := by rfl) :
    DE X C env (.Call (.Name x p) (e :: es) [] pos) d := .mk fun S Q q => by
  obtain ⟨f, fd, ps, F, hm, hk, hb⟩ := F.ex
  refine wE_of (pe_call F hr hg hm hk hb .nil pass0 (wA_pa _) hdb he hpl) (ha.run S _ fun vs G1 H1 g1 r1 => ?_)
  rw [List.append_nil]
  exact ⟨G1, sl, d, g1.i, r1, hR, fun v G2 H2 g2 r2 => q v G2 H2 (g1.trans g2) r2⟩
/-! ### built-ins -/
structure Tp (mg : Str → Option Value) : Prop where
  len : mg "len" = none
  all : mg "all" = none
  any : mg "any" = none
  max : mg "max" = none
  min : mg "min" = none
  sorted : mg "sorted" = none
  zip : mg "zip" = none
  range : mg "range" = none
  enum : mg "enumerate" = none
  isi : mg "isinstance" = none
  abs : mg "abs" = none
  int : mg "int" = none
  bool : mg "bool" = none
  str : mg "str" = none
  list : mg "list" = none
  tuple : mg "tuple" = none
theorem de_len (T : Tp X.mg) (ha : DQ X C env a ds) (hg : Gl X "len" := by rfl) (he : starEach [a] X.env = (false, eval a X.env) :: starEach [] X.env := by rfl) : DE X C env (.Call (.Name "len" p) [a] [] pos) (dI ds.length) := .mk fun S Q q =>
  wE_of (pe_callB call_len_seq hg T.len PySem.boot_len (pa_cons (wE_pe a) pa_nil he) (he := he)) (ha.run S _ fun v xs G1 H1 g1 e1 r1 => ⟨v, xs, rfl, e1.imp SqL.of SqT.of, by rw [r1.length]; exact q _ _ _ g1 (.int _)⟩)
theorem de_all {bs : List Bool} (T : Tp X.mg) (hc : X.calm = true) (ha : DL X C env a (bs.map .bool)) (hg : Gl X "all" := by rfl) (he : starEach [a] X.env = (false, eval a X.env) :: starEach [] X.env := by rfl) : DE X C env (.Call (.Name "all" p) [a] [] pos) (.bool (bs.all id)) := .mk fun S Q q =>
  wE_of (pe_callB (cr_all hc) hg T.all (by decide +kernel) (pa_cons (wE_pe a) pa_nil he) (he := he)) (ha.run S _ fun v xs G1 H1 g1 e1 r1 => ⟨v, bs, rfl, by rw [← r1.bls]; exact SqL.of e1, q _ _ _ g1 (.bl _)⟩)
theorem de_any {bs : List Bool} (T : Tp X.mg) (hc : X.calm = true) (ha : DL X C env a (bs.map .bool)) (hg : Gl X "any" := by rfl) (he : starEach [a] X.env = (false, eval a X.env) :: starEach [] X.env := by rfl) : DE X C env (.Call (.Name "any" p) [a] [] pos) (.bool (bs.any id)) := .mk fun S Q q =>
  wE_of (pe_callB (cr_any hc) hg T.any (by decide +kernel) (pa_cons (wE_pe a) pa_nil he) (he := he)) (ha.run S _ fun v xs G1 H1 g1 e1 r1 => ⟨v, bs, rfl, by rw [← r1.bls]; exact SqL.of e1, q _ _ _ g1 (.bl _)⟩)
theorem de_max2 (T : Tp X.mg) (hc : X.calm = true) (ha : DE X C env a (.int i)) (hb : DE X C env b (.int j)) (hg : Gl X "max" := by rfl) (he : starEach [a, b] X.env = (false, eval a X.env) :: starEach [b] X.env := by rfl) (he2 : starEach [b] X.env = (false, eval b X.env) :: starEach [] X.env := by rfl)
    (hpl : (backTo pos (starEach [b] X.env)).any (·.1) = false := by rfl) : DE X C env (.Call (.Name "max" p) [a, b] [] pos) (.int (if j > i then j else i)) := .mk fun S Q q =>
  wE_of (pe_callB (call_max2 hc) hg T.max (by decide +kernel) (pa_cons (wE_pe a) (pa_cons (wE_pe b) pa_nil he2) he) (he := he) (hpl := hpl)) (ha.run S _ fun v G1 H1 g1 r1 => hb.run (S.grow g1) _ fun w G2 H2 g2 r2 => by
    cases r1; cases r2; exact ⟨i, j, rfl, q _ _ _ (g1.trans g2) (.int _)⟩)
theorem de_min2 (T : Tp X.mg) (hc : X.calm = true) (ha : DE X C env a (.int i)) (hb : DE X C env b (.int j)) (hg : Gl X "min" := by rfl) (he : starEach [a, b] X.env = (false, eval a X.env) :: starEach [b] X.env := by rfl) (he2 : starEach [b] X.env = (false, eval b X.env) :: starEach [] X.env := by rfl)
    (hpl : (backTo pos (starEach [b] X.env)).any (·.1) = false := by rfl) : DE X C env (.Call (.Name "min" p) [a, b] [] pos) (.int (if j < i then j else i)) := .mk fun S Q q =>
  wE_of (pe_callB (call_min2 hc) hg T.min (by decide +kernel) (pa_cons (wE_pe a) (pa_cons (wE_pe b) pa_nil he2) he) (he := he) (hpl := hpl)) (ha.run S _ fun v G1 H1 g1 r1 => hb.run (S.grow g1) _ fun w G2 H2 g2 r2 => by
    cases r1; cases r2; exact ⟨i, j, rfl, q _ _ _ (g1.trans g2) (.int _)⟩)
/-- the least of a list -/
theorem de_min {ns : List Int} (T : Tp X.mg) (hc : X.calm = true) (ha : DL X C env a (ns.map .int)) (hm : i ∈ ns) (hl : ∀ y ∈ ns, i ≤ y) (hg : Gl X "min" := by rfl) (he : starEach [a] X.env = (false, eval a X.env) :: starEach [] X.env := by rfl) : DE X C env (.Call (.Name "min" p) [a] [] pos) (.int i) := .mk fun S Q q =>
  wE_of (pe_callB (cr_min hc) hg T.min (by decide +kernel) (pa_cons (wE_pe a) pa_nil he) (he := he)) (ha.run S _ fun v xs G1 H1 g1 e1 r1 => ⟨v, ns, rfl, by rw [← r1.ints]; exact SqL.of e1, List.length_pos_of_mem hm, fun m h1 h2 => by
    have e : m = i := Int.le_antisymm (h2 i hm) (hl m h1)
    rw [e]; exact q _ _ _ g1 (.int _)⟩)
theorem de_maxL {ns : List Int} (T : Tp X.mg) (hc : X.calm = true) (ha : DL X C env a (ns.map .int)) (hm : i ∈ ns) (hl : ∀ y ∈ ns, y ≤ i) (hg : Gl X "max" := by rfl) (he : starEach [a] X.env = (false, eval a X.env) :: starEach [] X.env := by rfl) : DE X C env (.Call (.Name "max" p) [a] [] pos) (.int i) := .mk fun S Q q =>
  wE_of (pe_callB (cr_max hc) hg T.max (by decide +kernel) (pa_cons (wE_pe a) pa_nil he) (he := he)) (ha.run S _ fun v xs G1 H1 g1 e1 r1 => ⟨v, ns, rfl, by rw [← r1.ints]; exact SqL.of e1, List.length_pos_of_mem hm, fun m h1 h2 => by
    have e : m = i := Int.le_antisymm (hl m h1) (h2 i hm)
    rw [e]; exact q _ _ _ g1 (.int _)⟩)
theorem de_abs (T : Tp X.mg) (ha : DE X C env a (.int i)) (hg : Gl X "abs" := by rfl) (he : starEach [a] X.env = (false, eval a X.env) :: starEach [] X.env := by rfl) : DE X C env (.Call (.Name "abs" p) [a] [] pos) (.int (if i < 0 then -i else i)) := .mk fun S Q q =>
  wE_of (pe_callB call_abs hg T.abs (by decide +kernel) (pa_cons (wE_pe a) pa_nil he) (he := he)) (ha.run S _ fun v G1 H1 g1 r1 => by cases r1; exact ⟨i, rfl, q _ _ _ g1 (.int _)⟩)
theorem de_intI (T : Tp X.mg) (ha : DE X C env a (.int i)) (hg : Gl X "int" := by rfl) (he : starEach [a] X.env = (false, eval a X.env) :: starEach [] X.env := by rfl) : DE X C env (.Call (.Name "int" p) [a] [] pos) (.int i) := .mk fun S Q q =>
  wE_of (pe_callTy call_int1 hg T.int (by decide +kernel) (pa_cons (wE_pe a) pa_nil he) (he := he)) (ha.run S _ fun v G1 H1 g1 r1 => by cases r1; exact .inl ⟨i, rfl, q _ _ _ g1 (.int _)⟩)
theorem de_intB {k : Bool} (T : Tp X.mg) (ha : DE X C env a (.bool k)) (hg : Gl X "int" := by rfl) (he : starEach [a] X.env = (false, eval a X.env) :: starEach [] X.env := by rfl) : DE X C env (.Call (.Name "int" p) [a] [] pos) (.int (if k then 1 else 0)) := .mk fun S Q q =>
  wE_of (pe_callTy call_int1 hg T.int (by decide +kernel) (pa_cons (wE_pe a) pa_nil he) (he := he)) (ha.run S _ fun v G1 H1 g1 r1 => by cases r1; exact .inr ⟨k, rfl, q _ _ _ g1 (.int _)⟩)
def tyD : PyData → String
  | .none => "NoneType"
  | .bool _ => "bool"
  | .int _ => "int"
  | .str _ => "str"
  | .list _ => "list"
  | .tuple _ => "tuple"
  | .dict _ => "dict"
theorem ty_rp {K : PySem.W.Frag} {H : Hp} {v : V} {d : PyData} (h : Rp H v d) : TyX K H v (.type (tyD d)) := by
  cases h with
  | non => exact .base .non
  | bl b => exact .base (.bl b)
  | int i => exact .base (.int i)
  | str x => exact .base (.str x)
  | lst e _ => exact .base (.lst e)
  | tup e _ => exact .base (.tup e)
theorem de_isi {T : String} {t : Str} {k : Bool} (Tp : Tp X.mg) (ha : DE X C env a d) (hm : X.mg t = none) (hv : bootBuiltins t = some (.type T)) (hk : kitB (tyD d) T = some k) (hn : t ≠ "__name__" := by decide) (hd : (t == ("__debug__" : Str)) = false := by decide) (hg : Gl X "isinstance" := by rfl) (hg2 : Gl X t := by rfl)
    (he : starEach [a, .Name t p2] X.env = (false, eval a X.env) :: starEach [.Name t p2] X.env := by rfl) (he2 : starEach [.Name t p2] X.env = (false, eval (.Name t p2) X.env) :: starEach [] X.env := by rfl)
    (hpl : (backTo pos (starEach [.Name t p2] X.env)).any (·.1) = false := by rfl) : DE X C env (.Call (.Name "isinstance" p) [a, .Name t p2] [] pos) (.bool k) := .mk fun S Q q =>
  wE_of (pe_callB call_isi hg Tp.isi (by decide +kernel) (pa_cons (wE_pe a) (pa_cons (pe_bltn (v := .ty T) hg2 hm hv rfl hn hd) pa_nil he2) he) (he := he) (hpl := hpl))
    (ha.run S _ fun v G1 H1 g1 r1 => ⟨v, .ty T, .type (tyD d), .type T, k, rfl, .ty T, ty_rp (r1.mono g1.i), kit_ty hk, q _ _ _ g1 (.bl k)⟩)
theorem dn_list (T : Tp X.mg) (ha : DQ X C env a ds) (hg : Gl X "list" := by rfl) (he : starEach [a] X.env = (false, eval a X.env) :: starEach [] X.env := by rfl) : DN X C env (.Call (.Name "list" p) [a] [] pos) ds := .mk fun S Q q =>
  wE_of (pe_callTy call_list_of hg T.list (by decide +kernel) (pa_cons (wE_pe a) pa_nil he) (he := he)) (ha.run S _ fun v xs G1 H1 g1 e1 r1 => ⟨v, xs, rfl, e1.imp SqL.of SqT.of, fun l hl => q l xs G1 H1 g1 hl r1⟩)
theorem de_tuple (T : Tp X.mg) (ha : DL X C env a ds) (hg : Gl X "tuple" := by rfl) (he : starEach [a] X.env = (false, eval a X.env) :: starEach [] X.env := by rfl) : DE X C env (.Call (.Name "tuple" p) [a] [] pos) (.tuple ds) := .mk fun S Q q =>
  wE_of (pe_callTy call_tuple_of hg T.tuple (by decide +kernel) (pa_cons (wE_pe a) pa_nil he) (he := he)) (ha.run S _ fun v xs G1 H1 g1 e1 r1 => ⟨v, xs, rfl, .inl ⟨SqL.of e1, fun l hl => by
    have g := Gr.new (.tup xs) g1.i hl
    exact q _ _ _ (g1.trans g) (.tup upd_same (r1.mono g.g))⟩⟩)
theorem sort_uniq {a b : List Int} (h : a.Perm b) (h1 : a.Pairwise (· ≤ ·)) : a = b.mergeSort (fun x y => decide (x ≤ y)) := by
  have p2 := List.mergeSort_perm b (fun x y => decide (x ≤ y))
  have s2 : (b.mergeSort (fun x y => decide (x ≤ y))).Pairwise (· ≤ ·) :=
    (List.pairwise_mergeSort (le := fun (x y : Int) => decide (x ≤ y)) (fun x y z q1 q2 => by simp only [decide_eq_true_eq] at *; omega) (fun x y => by simp only [Bool.or_eq_true, decide_eq_true_eq]; omega) b).imp fun q => by simpa using q
  exact (h.trans p2.symm).eq_of_pairwise (fun x y _ _ q1 q2 => Int.le_antisymm q1 q2) h1 s2
theorem dn_sortedI {ns : List Int} (T : Tp X.mg) (ha : DL X C env a (ns.map .int)) (hl : ns.length < 64) (hg : Gl X "sorted" := by rfl) (he : starEach [a] X.env = (false, eval a X.env) :: starEach [] X.env := by rfl) :
    DN X C env (.Call (.Name "sorted" p) [a] [] pos) ((ns.mergeSort (fun x y => decide (x ≤ y))).map .int) := .mk fun S Q q =>
  wE_of (pe_callB cr_sorted hg T.sorted (by decide +kernel) (pa_cons (wE_pe a) pa_nil he) (he := he)) (ha.run S _ fun v xs G1 H1 g1 e1 r1 => ⟨v, ns, rfl, by rw [← r1.ints]; exact SqL.of e1, hl, fun ns' p h1 h2 hp => by
    have e := sort_uniq h1 h2
    subst e
    exact q p _ G1 H1 g1 hp (RpAll.of_ints _)⟩)
end
/-! ### slots forgotten -/
theorem wipe_get {σ : L2.St} {j : Nat} : ∀ {vs : List Nat}, (wipe σ vs)[j]? = if j ∈ vs ∧ j < σ.length then some none else σ[j]?
  | [] => by simp [wipe]
  | v :: vs => by
    unfold wipe
    rw [List.getElem?_set, wipe_length, wipe_get (vs := vs)]
    by_cases h : v = j
    · subst h
      by_cases h2 : v < σ.length
      · simp [h2]
      · simp [h2]
    · simp [h, Ne.symm h]
theorem wipe_same {σ σ2 : L2.St} {vs : List Nat} (hl : σ2.length = σ.length) (h : ∀ j, j ∉ vs → σ2[j]? = (wipe σ vs)[j]?) : wipe σ2 vs = wipe σ vs := by
  apply List.ext_getElem?
  intro j
  rw [wipe_get]
  by_cases hj : j ∈ vs
  · rw [wipe_get, hl]
    by_cases h2 : j < σ.length
    · rw [if_pos ⟨hj, h2⟩, if_pos ⟨hj, h2⟩]
    · rw [if_neg (fun z => h2 z.2), if_neg (fun z => h2 z.2), List.getElem?_eq_none (by omega), List.getElem?_eq_none (by omega)]
  · rw [if_neg (fun z => hj z.1), h j hj]
def wipeD (env : DEnv) : List Nat → DEnv
  | [] => env
  | v :: vs => (wipeD env vs).set v .no
theorem wipeD_len (env : DEnv) : ∀ vs, (wipeD env vs).length = env.length
  | [] => rfl
  | v :: vs => by unfold wipeD; rw [List.length_set, wipeD_len env vs]
theorem St.wipe {C : Addr} {G0 H0 G H : Hp} {σ : L2.St} {env : DEnv} (S : St C G0 H0 G H σ env) : ∀ vs : List Nat, St C G0 H0 G H (L2.wipe σ vs) (wipeD env vs)
  | [] => S
  | v :: vs => by
    have ih := S.wipe vs
    unfold L2.wipe wipeD
    by_cases h : v < env.length
    · exact ih.forget (by rw [wipeD_len]; exact h)
    · rw [List.set_eq_of_length_le (by rw [wipe_length, S.len]; omega), List.set_eq_of_length_le (by rw [wipeD_len]; omega)]
      exact ih
/-! ### targets -/
structure DG (X : Cx) (C : Addr) (tg : Expr) (d : PyData) (env env' : DEnv) (vs : List Nat) : Prop where
  run : ∀ {G0 H0 G H : Hp} {σ : L2.St}, St C G0 H0 G H σ env → ∀ (x : V), Rp G x d → ∀ Q : L2.St → Hp → Prop, (∀ σ', St C G0 H0 G H σ' env' → (∀ j, j ∉ vs → σ'[j]? = σ[j]?) → Q σ' H) → wG X tg x σ H Q
structure DGs (X : Cx) (C : Addr) (tgs : List Expr) (ds : List PyData) (env env' : DEnv) (vs : List Nat) : Prop where
  run : ∀ {G0 H0 G H : Hp} {σ : L2.St}, St C G0 H0 G H σ env → ∀ (xs : List V), RpAll G xs ds → ∀ Q : L2.St → Hp → Prop, (∀ σ', St C G0 H0 G H σ' env' → (∀ j, j ∉ vs → σ'[j]? = σ[j]?) → Q σ' H) → wGs X tgs xs σ H Q
section
variable {X : Cx} {C : Addr} {env env1 env2 : DEnv} {e : Expr} {es : List Expr} {d : PyData} {ds : List PyData} {pos : Pos} {vs ws : List Nat}
theorem dg_name {x : Str} (s : Nat) (hN : X.N.Nodup) (hi : s < env.length := by exact Nat.le_of_ble_eq_true rfl) (hx : X.N[s]? = some x := by rfl) (hl : Loc X.env.scope x := by first | exact Or.inl rfl | exact Or.inr rfl) (hf : X.fn x = true ∨ X.env.scope.names.lookup x = some .local := by first | exact .inl rfl | exact .inr rfl) :
    DG X C (.Name x pos) d env (env.set s (.v d)) [s] := .mk fun S x r Q q =>
  wG_of (pg_name hN hx hl hf) (q _ (S.put hi rfl ⟨x, rfl, r⟩) fun j hj => List.getElem?_set_ne (by simpa using fun z => hj (by simp [z])))
theorem dgs_nil : DGs X C [] [] env env [] := .mk fun S xs r Q q => wGs_of pgs_nil ⟨by cases r; rfl, q _ S fun _ _ => rfl⟩
theorem dgs_cons (h : DG X C e d env env1 vs) (ht : DGs X C es ds env1 env2 ws) (hs : (assignEach (e :: es) X.env).map (·.2) = assign e X.env :: (assignEach es X.env).map (·.2) := by rfl) : DGs X C (e :: es) (d :: ds) env env2 (vs ++ ws) := .mk fun S xs r Q q => by
  cases r with
  | cons r1 r2 => exact wGs_of (pgs_cons (wG_pg e) (wGs_pgs es) hs) ⟨_, _, rfl, h.run S _ r1 _ fun σ1 S1 k1 => ht.run S1 _ r2 _ fun σ2 S2 k2 => q σ2 S2 fun j hj => by
      rw [List.mem_append, not_or] at hj
      rw [k2 j hj.2, k1 j hj.1]⟩
theorem dg_tup {k : Nat} (hc : X.calm = true) (h : DGs X C es ds env env1 vs) (hn : (assignEach es X.env).length = ds.length := by rfl) (hst : (assignEach es X.env).findIdx? (·.1) = none := by rfl) : DG X C (.Tuple es k pos) (.tuple ds) env env1 vs := .mk fun S x r Q q => by
  cases r with
  | tup e1 r1 => exact wG_of (pg_tup hc (wGs_pgs es) hn hst) ⟨_, _, rfl, SqT.of (S.same _ _ e1), r1.length, h.run S _ r1 Q q⟩
end
/-! ### what is walked -/
structure Walks (G1 : Hp) (J : It) (ds : List PyData) : Prop where
  go : ∀ (G H : Hp) (i : Nat) (d : PyData), Same G1 G → Same G H → ds[i]? = some d → J.go i H ∧ ∀ x H', J.yld i H x H' → ∃ G', Gr G H G' H' ∧ Rp G' x d
  stop : ∀ G H : Hp, Same G1 G → Same G H → J.stop ds.length H
def wI (X : Cx) (tg it : Expr) : TI := fun σ H R => ∀ pins s, Inv X pins σ H s → wpAny (model X.prog X.w) X.A (eval it X.env) (fun v s1 => wpAny (model X.prog X.w) X.A (pyIter v) (PIE X pins σ tg R) X.xe s1) X.xe s
theorem wI_pi {X : Cx} (tg it : Expr) : PI X tg it (wI X tg it) := ⟨fun pins s _ _ _ I h => h pins s I⟩
theorem wI_of {X : Cx} {tg it : Expr} {wi : TI} {σ : L2.St} {H : Hp} {R : It → Hp → Prop} (h : PI X tg it wi) (q : wi σ H R) : wI X tg it σ H R := fun pins s I => h.run pins s σ H R I q
structure DI (X : Cx) (C : Addr) (env : DEnv) (tg it : Expr) (ds : List PyData) : Prop where
  run : ∀ {G0 H0 G H : Hp} {σ : L2.St}, St C G0 H0 G H σ env → ∀ R : It → Hp → Prop, (∀ J G' H', Gr G H G' H' → Walks G' J ds → R J H') → wI X tg it σ H R
theorem walks_list {K : PySem.W.Frag} {G1 : Hp} {a : Addr} {xs : List V} {ds : List PyData} (h : G1 a = some (.lst xs)) (r : RpAll G1 xs ds) : Walks G1 (Itl K a) ds where
  go := fun G H i d g1 g2 e => by
    obtain ⟨v, h1, h2⟩ := r.get e
    have hs : SqL K H a xs := SqL.of (g2 _ _ (g1 _ _ h))
    refine ⟨⟨xs, v, hs, h1⟩, fun x H' y => ?_⟩
    obtain ⟨y1, y2⟩ := y
    subst y1
    have := y2 xs hs
    rw [h1] at this; cases this
    exact ⟨G, Gr.refl g2, h2.mono g1⟩
  stop := fun G H g1 g2 => ⟨xs, SqL.of (g2 _ _ (g1 _ _ h)), by rw [r.length]; exact Nat.le_refl _⟩
theorem walks_tup {K : PySem.W.Frag} {G1 : Hp} {a : Addr} {xs : List V} {ds : List PyData} (h : G1 a = some (.tup xs)) (r : RpAll G1 xs ds) : Walks G1 (Itt K a) ds where
  go := fun G H i d g1 g2 e => by
    obtain ⟨v, h1, h2⟩ := r.get e
    have hs : SqT K H a xs := SqT.of (g2 _ _ (g1 _ _ h))
    refine ⟨⟨xs, v, hs, h1⟩, fun x H' y => ?_⟩
    obtain ⟨y1, y2⟩ := y
    subst y1
    have := y2 xs hs
    rw [h1] at this; cases this
    exact ⟨G, Gr.refl g2, h2.mono g1⟩
  stop := fun G H g1 g2 => ⟨xs, SqT.of (g2 _ _ (g1 _ _ h)), by rw [r.length]; exact Nat.le_refl _⟩
def dRange (lo : Int) (n : Nat) : List PyData := (List.range n).map fun i => .int (lo + (i : Nat))
theorem walks_range {G1 : Hp} (lo : Int) (n : Nat) : Walks G1 (Itr lo n) (dRange lo n) where
  go := fun G H i d g1 g2 e => by
    have hlt : i < n := Classical.byContradiction fun no => by
      rw [List.getElem?_eq_none (by unfold dRange; simpa using no)] at e
      cases e
    have e2 : (dRange lo n)[i]? = some (.int (lo + (i : Nat))) := by
      unfold dRange
      rw [List.getElem?_map, List.getElem?_range hlt]; rfl
    rw [e2] at e
    cases e
    refine ⟨hlt, fun x H' y => ?_⟩
    obtain ⟨y1, y2⟩ := y
    subst y1 y2
    exact ⟨G, Gr.refl g2, .int _⟩
  stop := fun G H g1 g2 => by unfold dRange; rw [List.length_map, List.length_range]; exact Nat.le_refl _
/-- pairs of two rows, as zip gives them -/
def dZip : List PyData → List PyData → List PyData := List.zipWith fun a b => .tuple [a, b]
theorem dZip_get {xs ys : List PyData} {i : Nat} {d : PyData} (h : (dZip xs ys)[i]? = some d) : ∃ x y, xs[i]? = some x ∧ ys[i]? = some y ∧ d = .tuple [x, y] := by
  unfold dZip at h
  rw [List.getElem?_zipWith] at h
  cases e1 : xs[i]? with
  | none => rw [e1] at h; cases h
  | some x =>
    cases e2 : ys[i]? with
    | none => rw [e1, e2] at h; cases h
    | some y => rw [e1, e2] at h; cases h; exact ⟨x, y, rfl, rfl, rfl⟩
theorem walks_zipL {K : PySem.W.Frag} {G1 : Hp} {a b : Addr} {xs ys : List V} {ds es : List PyData} (h : G1 a = some (.lst xs)) (r : RpAll G1 xs ds) (h' : G1 b = some (.lst ys)) (r' : RpAll G1 ys es) : Walks G1 (Itz K a b) (dZip ds es) where
  go := fun G H i d g1 g2 e => by
    obtain ⟨x, y, ex, ey, rfl⟩ := dZip_get e
    obtain ⟨v, h1, h2⟩ := r.get ex
    obtain ⟨w, h3, h4⟩ := r'.get ey
    have hs : SqL K H a xs := SqL.of (g2 _ _ (g1 _ _ h))
    have hs' : SqL K H b ys := SqL.of (g2 _ _ (g1 _ _ h'))
    refine ⟨⟨xs, ys, v, w, hs, hs', h1, h3⟩, fun x H' y => ?_⟩
    obtain ⟨T, x1, x2, y0, y1, y2, y3, y4⟩ := y
    subst y0 y2
    have e1 := y3 xs hs
    have e2 := y4 ys hs'
    rw [h1] at e1; cases e1
    rw [h3] at e2; cases e2
    have g := Gr.new (.tup [v, w]) g2 y1
    exact ⟨_, g, .tup upd_same (.cons (h2.mono (g1.trans g.g)) (.cons (h4.mono (g1.trans g.g)) .nil))⟩
  stop := fun G H g1 g2 => ⟨xs, ys, SqL.of (g2 _ _ (g1 _ _ h)), SqL.of (g2 _ _ (g1 _ _ h')), by
    rw [r.length, r'.length]; unfold dZip; rw [List.length_zipWith]; omega⟩
theorem walks_zipT {K : PySem.W.Frag} {G1 : Hp} {a b : Addr} {xs ys : List V} {ds es : List PyData} (h : G1 a = some (.tup xs)) (r : RpAll G1 xs ds) (h' : G1 b = some (.tup ys)) (r' : RpAll G1 ys es) : Walks G1 (RZ.ItzT K a b) (dZip ds es) where
  go := fun G H i d g1 g2 e => by
    obtain ⟨x, y, ex, ey, rfl⟩ := dZip_get e
    obtain ⟨v, h1, h2⟩ := r.get ex
    obtain ⟨w, h3, h4⟩ := r'.get ey
    have hs : SqT K H a xs := SqT.of (g2 _ _ (g1 _ _ h))
    have hs' : SqT K H b ys := SqT.of (g2 _ _ (g1 _ _ h'))
    refine ⟨⟨xs, ys, v, w, hs, hs', h1, h3⟩, fun x H' y => ?_⟩
    obtain ⟨T, x1, x2, y0, y1, y2, y3, y4⟩ := y
    subst y0 y2
    have e1 := y3 xs hs
    have e2 := y4 ys hs'
    rw [h1] at e1; cases e1
    rw [h3] at e2; cases e2
    have g := Gr.new (.tup [v, w]) g2 y1
    exact ⟨_, g, .tup upd_same (.cons (h2.mono (g1.trans g.g)) (.cons (h4.mono (g1.trans g.g)) .nil))⟩
  stop := fun G H g1 g2 => ⟨xs, ys, SqT.of (g2 _ _ (g1 _ _ h)), SqT.of (g2 _ _ (g1 _ _ h')), by
    rw [r.length, r'.length]; unfold dZip; rw [List.length_zipWith]; omega⟩
def dEnum (ds : List PyData) : List PyData := ds.zipIdx.map fun p => .tuple [dI p.2, p.1]
theorem dEnum_get {xs : List PyData} {i : Nat} {d : PyData} (h : (dEnum xs)[i]? = some d) : ∃ x, xs[i]? = some x ∧ d = .tuple [dI i, x] := by
  unfold dEnum at h
  rw [List.getElem?_map, List.getElem?_zipIdx] at h
  cases e1 : xs[i]? with
  | none => rw [e1] at h; cases h
  | some x => rw [e1] at h; simp at h; exact ⟨x, rfl, h.symm⟩
theorem walks_enumL {K : PySem.W.Frag} {G1 : Hp} {a : Addr} {xs : List V} {ds : List PyData} (h : G1 a = some (.lst xs)) (r : RpAll G1 xs ds) : Walks G1 (Ite K a) (dEnum ds) where
  go := fun G H i d g1 g2 e => by
    obtain ⟨x, ex, rfl⟩ := dEnum_get e
    obtain ⟨v, h1, h2⟩ := r.get ex
    have hs : SqL K H a xs := SqL.of (g2 _ _ (g1 _ _ h))
    refine ⟨⟨xs, v, hs, h1⟩, fun x H' y => ?_⟩
    obtain ⟨T, x1, y0, y1, y2, y3⟩ := y
    subst y0 y2
    have e1 := y3 xs hs
    rw [h1] at e1; cases e1
    have g := Gr.new (.tup [.int (i : Nat), v]) g2 y1
    exact ⟨_, g, .tup upd_same (.cons (.int _) (.cons (h2.mono (g1.trans g.g)) .nil))⟩
  stop := fun G H g1 g2 => ⟨xs, SqL.of (g2 _ _ (g1 _ _ h)), by
    rw [r.length]; unfold dEnum; rw [List.length_map, List.length_zipIdx]; omega⟩
section
variable {X : Cx} {C : Addr} {env : DEnv} {tg a b e : Expr} {ds es' : List PyData} {p pos tpos : Pos} {n : Nat} {lo hi : Int} {elts : List Expr} {kk : Nat}
theorem di_list (h : DE X C env e (.list ds)) : DI X C env tg e ds := .mk fun S R q => wI_of (pi_list (wE_pe e)) (h.run S _ fun v G1 H1 g1 r1 => by
  cases r1 with
  | lst e1 r1 => exact ⟨_, rfl, ⟨_, SqL.of (g1.i _ _ e1)⟩, q _ G1 H1 g1 (walks_list e1 r1)⟩)
theorem di_tup (h : DE X C env e (.tuple ds)) : DI X C env tg e ds := .mk fun S R q => wI_of (pi_tup (wE_pe e)) (h.run S _ fun v G1 H1 g1 r1 => by
  cases r1 with
  | tup e1 r1 => exact ⟨_, rfl, ⟨_, SqT.of (g1.i _ _ e1)⟩, q _ G1 H1 g1 (walks_tup e1 r1)⟩)
theorem di_range1 (T : Tp X.mg) (h : DE X C env a (.int hi)) (hb : -100000 ≤ hi ∧ hi ≤ 100000) (hg : Gl X "range" := by rfl) (hs : starEach [a] X.env = [(false, eval a X.env)] := by rfl) : DI X C env tg (.Call (.Name "range" p) [a] [] pos) (dRange 0 hi.toNat) := .mk fun S R q =>
  wI_of (pi_range1 hg T.range (pa_cons (wE_pe a) pa_nil hs) hs) (h.run S _ fun v G1 H1 g1 r1 => by cases r1; exact ⟨hi, rfl, by omega, by omega, q _ G1 H1 g1 (walks_range 0 hi.toNat)⟩)
theorem di_range2 (T : Tp X.mg) (h : DE X C env a (.int lo)) (h' : DE X C env b (.int hi)) (hb : -100000 ≤ lo ∧ lo ≤ 100000 ∧ -100000 ≤ hi ∧ hi ≤ 100000) (hg : Gl X "range" := by rfl) (hs : starEach [a, b] X.env = [(false, eval a X.env), (false, eval b X.env)] := by rfl) (hs2 : starEach [b] X.env = [(false, eval b X.env)] := by rfl) :
    DI X C env tg (.Call (.Name "range" p) [a, b] [] pos) (dRange lo (hi - lo).toNat) := .mk fun S R q =>
  wI_of (pi_range2 hg T.range (pa_cons (wE_pe a) (pa_cons (wE_pe b) pa_nil hs2) (by rw [hs, hs2])) hs hs2) (h.run S _ fun v G1 H1 g1 r1 => h'.run (S.grow g1) _ fun w G2 H2 g2 r2 => by
    cases r1; cases r2; exact ⟨lo, hi, rfl, ⟨by omega, by omega, by omega, by omega⟩, q _ G2 H2 (g1.trans g2) (walks_range lo (hi - lo).toNat)⟩)
theorem di_zipL (T : Tp X.mg) (h : DE X C env a (.list ds)) (h' : DE X C env b (.list es')) (hg : Gl X "zip" := by rfl) (hs : starEach [a, b] X.env = (false, eval a X.env) :: starEach [b] X.env := by rfl) (hs2 : starEach [b] X.env = (false, eval b X.env) :: starEach [] X.env := by rfl)
    (hpl : (backTo pos (starEach [b] X.env)).any (·.1) = false := by rfl) : DI X C env (.Tuple elts kk tpos) (.Call (.Name "zip" p) [a, b] [] pos) (dZip ds es') := .mk fun S R q =>
  wI_of (RZ.pi_zipA hg T.zip (pa_cons (wE_pe a) (pa_cons (wE_pe b) pa_nil hs2) hs) hs hpl) (h.run S _ fun v G1 H1 g1 r1 => h'.run (S.grow g1) _ fun w G2 H2 g2 r2 => by
    cases r1 with
    | lst e1 r1 =>
      cases r2 with
      | lst e2 r2 =>
        have e1' := g2.g _ _ e1
        exact ⟨_, _, _, _, rfl, .inl ⟨SqL.of (g2.i _ _ e1'), SqL.of (g2.i _ _ e2), q _ G2 H2 (g1.trans g2) (walks_zipL e1' (r1.mono g2.g) e2 r2)⟩⟩)
theorem di_zipT (T : Tp X.mg) (h : DE X C env a (.tuple ds)) (h' : DE X C env b (.tuple es')) (hg : Gl X "zip" := by rfl) (hs : starEach [a, b] X.env = (false, eval a X.env) :: starEach [b] X.env := by rfl) (hs2 : starEach [b] X.env = (false, eval b X.env) :: starEach [] X.env := by rfl)
    (hpl : (backTo pos (starEach [b] X.env)).any (·.1) = false := by rfl) : DI X C env (.Tuple elts kk tpos) (.Call (.Name "zip" p) [a, b] [] pos) (dZip ds es') := .mk fun S R q =>
  wI_of (RZ.pi_zipA hg T.zip (pa_cons (wE_pe a) (pa_cons (wE_pe b) pa_nil hs2) hs) hs hpl) (h.run S _ fun v G1 H1 g1 r1 => h'.run (S.grow g1) _ fun w G2 H2 g2 r2 => by
    cases r1 with
    | tup e1 r1 =>
      cases r2 with
      | tup e2 r2 =>
        have e1' := g2.g _ _ e1
        exact ⟨_, _, _, _, rfl, .inr ⟨SqT.of (g2.i _ _ e1'), SqT.of (g2.i _ _ e2), q _ G2 H2 (g1.trans g2) (walks_zipT e1' (r1.mono g2.g) e2 r2)⟩⟩)
theorem di_enumL (T : Tp X.mg) (h : DE X C env a (.list ds)) (hg : Gl X "enumerate" := by rfl) (hs : starEach [a] X.env = [(false, eval a X.env)] := by rfl) : DI X C env (.Tuple elts kk tpos) (.Call (.Name "enumerate" p) [a] [] pos) (dEnum ds) := .mk fun S R q =>
  wI_of (pi_enum hg T.enum (pa_cons (wE_pe a) pa_nil hs) hs) (h.run S _ fun v G1 H1 g1 r1 => by
    cases r1 with
    | lst e1 r1 => exact ⟨_, _, rfl, SqL.of (g1.i _ _ e1), q _ G1 H1 g1 (walks_enumL e1 r1)⟩)
end
end TD
namespace TD
open PySem L2
/-! ### list comprehensions -/
structure DTs (X : Cx) (C : Addr) (env : DEnv) (ifs : List Expr) (b : Bool) : Prop where
  run : ∃ t, PTs X ifs t ∧ ∀ {G0 H0 G H : Hp} {σ : L2.St}, St C G0 H0 G H σ env → ∀ Q : Bool → Hp → Prop, (∀ G' H', Gr G H G' H' → Q b H') → t σ H Q
def wTs (X : Cx) (ifs : List Expr) : TT := fun σ H Q => ∃ t, PTs X ifs t ∧ t σ H Q
theorem wTs_pts {X : Cx} (ifs : List Expr) : PTs X ifs (wTs X ifs) := ⟨fun pins s σ H Q I ⟨t, h, q⟩ => h.run pins s σ H Q I q⟩
theorem DTs.go {X : Cx} {C : Addr} {env : DEnv} {ifs : List Expr} {b : Bool} (h : DTs X C env ifs b) {G0 H0 G H : Hp} {σ : L2.St} (S : St C G0 H0 G H σ env) (Q : Bool → Hp → Prop) (q : ∀ G' H', Gr G H G' H' → Q b H') : wTs X ifs σ H Q :=
  let ⟨t, h1, h2⟩ := h.run; ⟨t, h1, h2 S Q q⟩
theorem dts_nil {X : Cx} {C : Addr} {env : DEnv} : DTs X C env [] true := ⟨_, pts_nil, fun S Q q => q _ _ S.refl⟩
theorem dts_one {X : Cx} {C : Addr} {env : DEnv} {c : Expr} {b : Bool} (h : DT X C env c b) : DTs X C env [c] b := ⟨_, pts_one (wT_pt c), fun S Q q => h.run S Q q⟩
/-- the heap without one object -/
def del (H : Hp) (D : Addr) : Hp := fun b => if b = D then none else H b
theorem del_upd {H : Hp} {D : Addr} {o : HO} (h : H D = some o) : upd (del H D) D o = H := by
  funext b; unfold upd del
  by_cases e : b = D
  · rw [if_pos e, e, h]
  · rw [if_neg e, if_neg e]
theorem del_same {H : Hp} {D : Addr} : del H D D = none := by unfold del; rw [if_pos rfl]
theorem del_ne {H : Hp} {D b : Addr} (h : b ≠ D) : del H D b = H b := by unfold del; rw [if_neg h]
abbrev blkY (X : Cx) (scope : Scope) (s : Shared) (H : Hp) (Cc : Addr) (cl : List (Str × Addr)) (fp : List Addr) : Cx := X.blk s H scope (compEnvC scope cl Cc X.env) fp
/-- the new list D, as it stands behind a part of the turns -/
structure LcAt (G1 H1 : Hp) (D : Addr) (acc : List PyData) (G H : Hp) : Prop where
  gr : Gr G1 H1 G H
  at_ : ∃ xs, H D = some (.lst xs) ∧ G D = none ∧ RpAll G xs acc
theorem LcAt.grow {G1 H1 G H G' H' : Hp} {D : Addr} {acc : List PyData} (L : LcAt G1 H1 D acc G H) (g : Gr G H G' H') : LcAt G1 H1 D acc G' H' := by
  obtain ⟨xs, h1, h2, h3⟩ := L.at_
  exact ⟨L.gr.trans g, xs, g.h _ _ h1, g.n D _ h2 h1 rfl, h3.mono g.g⟩
theorem LcAt.push {G1 H1 G H : Hp} {D : Addr} {acc : List PyData} {v : V} {d : PyData} (L : LcAt G1 H1 D acc G H) (hD : H1 D = none) (r : Rp G v d) : ∃ xs, H D = some (.lst xs) ∧ xs.length = acc.length ∧ LcAt G1 H1 D (acc ++ [d]) G (upd H D (.lst (xs ++ [v]))) := by
  obtain ⟨xs, h1, h2, h3⟩ := L.at_
  refine ⟨xs, h1, h3.length, ⟨L.gr.g, fun b u q => ?_, fun b u q => ?_, L.gr.n⟩, _, upd_same, h2, h3.append (.cons r .nil)⟩
  · rw [upd_ne (ne_of_none q hD)]; exact L.gr.h b u q
  · rw [upd_ne (ne_of_none q h2)]; exact L.gr.i b u q
theorem LcAt.fin {G0 H0 G1 H1 G H : Hp} {D : Addr} {acc : List PyData} (L : LcAt G1 H1 D acc G H) (g : Gr G0 H0 G1 H1) (hD : H1 D = none) {Q : VK} (q : ∀ p xs G' H', Gr G0 H0 G' H' → H' p = none → RpAll G' xs acc → Q (.ref p) (upd H' p (.lst xs))) : Q (.ref D) H := by
  obtain ⟨xs, h1, h2, h3⟩ := L.at_
  have e := q D xs G (del H D) (g.trans ⟨L.gr.g, fun b u z => by rw [del_ne (ne_of_none z hD)]; exact L.gr.h b u z, fun b u z => by rw [del_ne (ne_of_none z h2)]; exact L.gr.i b u z, L.gr.n⟩) del_same h3
  rw [del_upd h1] at e
  exact e
theorem LcAt.init {G1 H1 : Hp} {D : Addr} (s : Same G1 H1) (h : H1 D = none) : LcAt G1 H1 D [] G1 (upd H1 D (.lst [])) :=
  ⟨Gr.mut _ s h, [], upd_same, s.free h, .nil⟩
theorem yes_go {σ : L2.St} {H : Hp} {A B : Hp → Prop} (h : A H) : tYes σ H (fun b H3 => if b = true then A H3 else B H3) := h
/-- growth off D -/
structure GrD (D : Addr) (G H G' H' : Hp) : Prop where
  g : Same G G'
  h : ∀ b o, b ≠ D → H b = some o → H' b = some o
  n : ∀ a o, G a = none → H a = some o → isMuO o = true → G' a = none
theorem Gr.off {D : Addr} {G H G' H' : Hp} (g : Gr G H G' H') : GrD D G H G' H' := ⟨g.g, fun b o _ e => g.h b o e, g.n⟩
theorem GrD.trans {D : Addr} {G H G1 H1 G2 H2 : Hp} (a : GrD D G H G1 H1) (b : GrD D G1 H1 G2 H2) (hD : G1 D = none → G2 D = none) : GrD D G H G2 H2 := by
  refine ⟨a.g.trans b.g, fun c o e h => b.h c o e (a.h c o e h), fun c o e1 e2 e4 => ?_⟩
  have e3 := a.n c o e1 e2 e4
  by_cases hc : c = D
  · subst hc; exact hD e3
  · exact b.n c o e3 (a.h c o hc e2) e4
theorem GrD.upd {D : Addr} {G H G' H' : Hp} {o : HO} (a : GrD D G H G' H') : GrD D G H G' (L2.upd H' D o) := ⟨a.g, fun b u e h => by rw [upd_ne e]; exact a.h b u e h, a.n⟩
/-- an address that no list of ours has -/
def NoMu (σ : L2.St) (env : DEnv) (D : Addr) : Prop := ∀ i, Mu env i → σ[i]? ≠ some (some (.ref D))
theorem St.off {C : Addr} {G0 H0 G H G' H' : Hp} {σ : L2.St} {env : DEnv} {D : Addr} (S : St C G0 H0 G H σ env) (hD : NoMu σ env D) (g : GrD D G H G' H') (gr : Gr G0 H0 G' H') : St C G0 H0 G' H' σ env := by
  refine ⟨gr, S.len, fun i e h => ?_, S.ds, S.fr⟩
  have ok := S.sl i e h
  cases e with
  | no => trivial
  | v d => obtain ⟨v, h1, h2⟩ := ok; exact ⟨v, h1, h2.mono g.g⟩
  | web n r => obtain ⟨v, h1, h2⟩ := ok; exact ⟨v, h1, h2.mono g.g⟩
  | fz ns => obtain ⟨a, o, h1, h2, h3⟩ := ok; exact ⟨a, o, h1, h2, g.g _ _ h3⟩
  | ob p' K dx k n r => obtain ⟨h1, h3, fs, h2, h4⟩ := ok; exact ⟨h1, g.n p' _ h3 h2 rfl, fs, g.h _ _ (fun z => hD i ⟨_, h, rfl⟩ (by rw [h1, z])) h2, h4.mono g.g⟩
  | ml a ds => obtain ⟨xs, h1, h2, h3, h4⟩ := ok; exact ⟨xs, h1, g.h _ _ (fun z => hD i ⟨_, h, rfl⟩ (by rw [h1, z])) h2, g.n a _ h3 h2 rfl, h4.mono g.g⟩
  | mu ds => obtain ⟨a, xs, h1, h2, h3, h4⟩ := ok; exact ⟨a, xs, h1, g.h _ _ (fun z => hD i ⟨_, h, rfl⟩ (by rw [h1, z])) h2, g.n a _ h3 h2 rfl, h4.mono g.g⟩
  | di kvs => obtain ⟨a, xs, h1, h2, h3, h4⟩ := ok; exact ⟨a, xs, h1, g.h _ _ (fun z => hD i ⟨_, h, rfl⟩ (by rw [h1, z])) h2, g.n a _ h3 h2 rfl, h4.mono g.g⟩
theorem St.noMu {C : Addr} {G0 H0 G H : Hp} {σ : L2.St} {env : DEnv} {D : Addr} (S : St C G0 H0 G H σ env) (hD : H D = none) : NoMu σ env D := fun i ⟨e, h1, h2⟩ h3 => by
  have ok := S.sl i e h1
  cases e with
  | no => cases h2
  | v d => cases h2
  | web n r => cases h2
  | fz ns => cases h2
  | ob p' K dx k n r => obtain ⟨q1, _, fs, q2, _⟩ := ok; rw [h3] at q1; cases q1; rw [hD] at q2; cases q2
  | ml a' ds => obtain ⟨xs, q1, q2, _⟩ := ok; rw [h3] at q1; cases q1; rw [hD] at q2; cases q2
  | mu ds => obtain ⟨a, xs, q1, q2, _⟩ := ok; rw [h3] at q1; cases q1; rw [hD] at q2; cases q2
  | di kvs => obtain ⟨a, xs, q1, q2, _⟩ := ok; rw [h3] at q1; cases q1; rw [hD] at q2; cases q2
/-- a base in which D stands as it is now -/
theorem St.wide {C : Addr} {G0 H0 G H : Hp} {σ : L2.St} {env : DEnv} {D : Addr} {o : HO} (S : St C G0 H0 G H σ env) (hD : NoMu σ env D) (hH : H D = some o) (hG : G D = none) : St C G0 (L2.upd H0 D o) G H σ env := by
  refine ⟨⟨S.gr.g, fun b u q => ?_, S.gr.i, fun a o e1 e2 e3 => ?_⟩, S.len, S.sl, S.ds, fun i a m h => ?_⟩
  · by_cases hb : b = D
    · subst hb; rw [upd_same] at q; cases q; exact hH
    · rw [upd_ne hb] at q; exact S.gr.h b u q
  · by_cases hb : a = D
    · rw [hb]; exact hG
    · rw [upd_ne hb] at e2; exact S.gr.n a o e1 e2 e3
  · have ne : a ≠ D := fun z => hD i m (by rw [← z]; exact h)
    rw [upd_ne ne]; exact S.fr i a m h
theorem St.narrow {C : Addr} {G0 H0 G H : Hp} {σ : L2.St} {env : DEnv} {D : Addr} {o : HO} (S : St C G0 (L2.upd H0 D o) G H σ env) (gr : Gr G0 H0 G H) : St C G0 H0 G H σ env ∧ NoMu σ env D := by
  refine ⟨⟨gr, S.len, S.sl, S.ds, fun i a m h => ?_⟩, fun i m h => ?_⟩
  · have e := S.fr i a m h
    by_cases hb : a = D
    · subst hb; rw [upd_same] at e; cases e
    · rw [upd_ne hb] at e; exact e
  · have e := S.fr i D m h
    rw [upd_same] at e; cases e
theorem St.noMu_wipe {σ : L2.St} {env : DEnv} {D : Addr} (h : NoMu σ env D) : ∀ vs : List Nat, NoMu (L2.wipe σ vs) (wipeD env vs) D
  | [] => h
  | v :: vs => fun i ⟨e, h1, h2⟩ h3 => by
    have ih := St.noMu_wipe h vs
    unfold wipeD at h1
    unfold L2.wipe at h3
    by_cases hv : v = i
    · subst hv
      by_cases hl : v < (wipeD env vs).length
      · rw [set_get hl] at h1; cases h1; cases h2
      · rw [List.getElem?_eq_none (by rw [List.length_set]; omega)] at h1; cases h1
    · rw [set_get' hv] at h1 h3
      exact ih i ⟨e, h1, h2⟩ h3
section
variable {X : Cx} {C : Addr} {env : DEnv} {N ps : List Str} {sc : Scope} {elt tg iter tg1 iter1 : Expr} {ifs : List Expr} {scope : Scope} {own : List (Str × Nat)} {pos spos : Pos} {α β : Type}
/-- the reading of a comprehension of one clause -/
theorem lc_reads (enc : α → PyData) (as : List α) (keep : α → Bool) (out : α → PyData) (src : DI X C env tg iter (as.map enc)) (hlen : as.length ≤ 10000000)
    (step : ∀ a ∈ as, ∃ env2 vs, (∀ v ∈ vs, v ∈ own.map (·.2)) ∧ env2.length = env.length ∧ ∀ (s : Shared) (H : Hp) (Cc : Addr) (cl : List (Str × Addr)) (fp : List Addr),
      DG (blkY X scope s H Cc cl fp) C tg (enc a) (wipeD env (own.map (·.2))) env2 vs ∧ DTs (blkY X scope s H Cc cl fp) C env2 ifs (keep a) ∧ (keep a = true → DE (blkY X scope s H Cc cl fp) C env2 elt (out a)))
    {G0 H0 G H : Hp} {σ : L2.St} (S : St C G0 H0 G H σ env) (Q : VK) (q : ∀ p xs G' H', Gr G H G' H' → H' p = none → RpAll G' xs ((as.filter keep).map out) → Q (.ref p) (upd H' p (.lst xs))) :
    tLc (wI X tg iter) (fun v σ H Q => ∀ (s : Shared) (H0 : Hp) (Cc : Addr) (cl : List (Str × Addr)) (fp : List Addr), wG (blkY X scope s H0 Cc cl fp) tg v σ H Q)
      (fun σ H Q => ∀ (s : Shared) (H0 : Hp) (Cc : Addr) (cl : List (Str × Addr)) (fp : List Addr), wTs (blkY X scope s H0 Cc cl fp) ifs σ H Q)
      (fun σ H Q => ∀ (s : Shared) (H0 : Hp) (Cc : Addr) (cl : List (Str × Addr)) (fp : List Addr), wE (blkY X scope s H0 Cc cl fp) elt σ H Q) (own.map (·.2)) σ H Q := by
  refine src.run S _ fun J G1 H1 g1 W D hD => ?_
  refine ⟨fun i m H' => m = as.length - i ∧ i ≤ as.length ∧ ∃ G', LcAt G1 H1 D (((as.take i).filter keep).map out) G' H', ⟨as.length, by simp, Nat.zero_le _, G1, LcAt.init g1.i hD⟩, ?_⟩
  rintro i m H' ⟨rfl, hi, G', L⟩
  by_cases hlt : i < as.length
  · have ea : as[i]? = some as[i] := List.getElem?_eq_getElem hlt
    have em : (as.map enc)[i]? = some (enc as[i]) := by rw [List.getElem?_map, ea]; rfl
    obtain ⟨go, yl⟩ := W.go G' H' i _ L.gr.g L.gr.i em
    have tk : as.take (i + 1) = as.take i ++ [as[i]] := by rw [List.take_add_one, ea]; rfl
    refine .inr ⟨go, fun H2 => ∃ G2, LcAt G1 H1 D (((as.take (i + 1)).filter keep).map out) G2 H2, fun H2 h2 => ⟨as.length - (i + 1), by omega, rfl, hlt, h2⟩, fun x H2 y => ?_⟩
    obtain ⟨G2, g2, r2⟩ := yl x H2 y
    obtain ⟨env2, vs, hv, hle, st⟩ := step as[i] (List.getElem_mem hlt)
    have L2 := L.grow g2
    have S2 := (S.grow (g1.trans L2.gr)).wipe (own.map (·.2))
    intro s Hc Cc cl fp
    refine (st s Hc Cc cl fp).1.run S2 x r2 _ fun σ3 S3 k3 => ⟨?_, ?_⟩
    · refine wipe_same (by rw [S3.len, hle, S.len]) fun j hj => k3 j fun z => hj (hv j z)
    · intro s Hc Cc cl fp
      refine (st s Hc Cc cl fp).2.1.go S3 _ fun G4 H4 g4 => ?_
      have L4 := L2.grow g4
      cases hk : keep as[i] with
      | false =>
        rw [if_neg Bool.false_ne_true]
        refine ⟨G4, ?_⟩
        have e : ((as.take (i + 1)).filter keep).map out = ((as.take i).filter keep).map out := by rw [tk, List.filter_append]; simp [hk]
        rw [e]; exact L4
      | true =>
        rw [if_pos rfl]
        intro s Hc Cc cl fp
        refine ((st s Hc Cc cl fp).2.2 hk).run (S3.grow g4) _ fun v G5 H5 g5 r5 => ?_
        obtain ⟨xs, e1, e2, L5⟩ := (L4.grow g5).push hD r5
        refine ⟨xs, e1, ?_, G5, ?_⟩
        · rw [e2, List.length_map, sizeLine_eq]
          have := List.length_filter_le keep (as.take i)
          rw [List.length_take] at this
          omega
        · have e : ((as.take (i + 1)).filter keep).map out = ((as.take i).filter keep).map out ++ [out as[i]] := by rw [tk, List.filter_append, List.map_append]; simp [hk]
          rw [e]; exact L5
  · have e : i = as.length := by omega
    subst e
    rw [List.take_of_length_le (Nat.le_refl _)] at L
    have st := W.stop G' H' L.gr.g L.gr.i
    rw [List.length_map] at st
    exact .inl ⟨st, L.fin g1 hD q⟩
theorem dn_lc (enc : α → PyData) (as : List α) (keep : α → Bool) (out : α → PyData) (hc : X.calm = true) (FS : FnScope N ps sc) (src : DI X C env tg iter (as.map enc)) (hlen : as.length ≤ 10000000)
    (step : ∀ a ∈ as, ∃ env2 vs, (∀ v ∈ vs, v ∈ own.map (·.2)) ∧ env2.length = env.length ∧ ∀ (s : Shared) (H : Hp) (Cc : Addr) (cl : List (Str × Addr)) (fp : List Addr),
      DG (blkY X scope s H Cc cl fp) C tg (enc a) (wipeD env (own.map (·.2))) env2 vs ∧ DTs (blkY X scope s H Cc cl fp) C env2 ifs (keep a) ∧ (keep a = true → DE (blkY X scope s H Cc cl fp) C env2 elt (out a)))
    (hs : ∀ x, foldedSetIterable iter X.env x = pure x := by intro _; rfl) (ok : blkC N sc scope own = true := by decide +kernel) (e1 : X.N = N := by rfl) (e2 : X.env.scope = sc := by rfl) : DN X C env (.ListComp elt [⟨tg, iter, ifs, 0⟩] scope pos) ((as.filter keep).map out) := .mk fun S Q q =>
  wE_of (pe_lc hc (by rw [e1]; exact FS.nd) (wI_pi tg iter) (by rw [e1, e2]; exact blkOk_by ok) (fun s H Cc cl fp => ⟨fun pins s' σ H' v u Q I r h => h s H Cc cl fp pins s' u I r⟩)
    (fun s H Cc cl fp => ⟨fun pins s' σ H' Q I h => (wTs_pts ifs).run pins s' σ H' Q I (h s H Cc cl fp)⟩) (fun s H Cc cl fp => ⟨fun pins s' σ H' Q I h => h s H Cc cl fp pins s' I⟩) hs)
    (lc_reads enc as keep out src hlen step S Q q)
/-- two clauses, no tests -/
theorem lc2_reads (enc : α → PyData) (as : List α) (enc1 : α → β → PyData) (bs : α → List β) (out : α → β → PyData) {vs1 : List Nat} (src : DI X C env tg iter (as.map enc)) (hlen : (as.flatMap bs).length ≤ 10000000)
    (step : ∀ a ∈ as, ∃ env2 vs, (∀ v ∈ vs, v ∈ own.map (·.2)) ∧ env2.length = env.length ∧ ∀ (s : Shared) (H : Hp) (Cc : Addr) (cl : List (Str × Addr)) (fp : List Addr),
      DG (blkY X scope s H Cc cl fp) C tg (enc a) (wipeD env (own.map (·.2))) env2 vs ∧ DI (blkY X scope s H Cc cl fp) C env2 tg1 iter1 ((bs a).map (enc1 a)) ∧
      ∀ b ∈ bs a, ∃ env3 vs', (∀ v ∈ vs', v ∈ vs1) ∧ env3.length = env.length ∧ ∀ (s : Shared) (H : Hp) (Cc : Addr) (cl : List (Str × Addr)) (fp : List Addr), DG (blkY X scope s H Cc cl fp) C tg1 (enc1 a b) (wipeD env2 vs1) env3 vs' ∧ DE (blkY X scope s H Cc cl fp) C env3 elt (out a b))
    {G0 H0 G H : Hp} {σ : L2.St} (S : St C G0 H0 G H σ env) (Q : VK) (q : ∀ p xs G' H', Gr G H G' H' → H' p = none → RpAll G' xs (as.flatMap fun a => (bs a).map (out a)) → Q (.ref p) (upd H' p (.lst xs))) :
    tLc2 (wI X tg iter) (fun v σ H Q => ∀ (s : Shared) (H0 : Hp) (Cc : Addr) (cl : List (Str × Addr)) (fp : List Addr), wG (blkY X scope s H0 Cc cl fp) tg v σ H Q) tYes
      (fun σ H R => ∀ (s : Shared) (H0 : Hp) (Cc : Addr) (cl : List (Str × Addr)) (fp : List Addr), wI (blkY X scope s H0 Cc cl fp) tg1 iter1 σ H R)
      (fun v σ H Q => ∀ (s : Shared) (H0 : Hp) (Cc : Addr) (cl : List (Str × Addr)) (fp : List Addr), wG (blkY X scope s H0 Cc cl fp) tg1 v σ H Q) tYes
      (fun σ H Q => ∀ (s : Shared) (H0 : Hp) (Cc : Addr) (cl : List (Str × Addr)) (fp : List Addr), wE (blkY X scope s H0 Cc cl fp) elt σ H Q) (own.map (·.2)) vs1 σ H Q := by
  refine src.run S _ fun J G1 H1 g1 W D hD => ?_
  refine ⟨fun i m H' => m = as.length - i ∧ i ≤ as.length ∧ ∃ G', LcAt G1 H1 D ((as.take i).flatMap fun a => (bs a).map (out a)) G' H', ⟨as.length, by simp, Nat.zero_le _, G1, LcAt.init g1.i hD⟩, ?_⟩
  rintro i m H' ⟨rfl, hi, G', L⟩
  by_cases hlt : i < as.length
  · have ea : as[i]? = some as[i] := List.getElem?_eq_getElem hlt
    have em : (as.map enc)[i]? = some (enc as[i]) := by rw [List.getElem?_map, ea]; rfl
    obtain ⟨go, yl⟩ := W.go G' H' i _ L.gr.g L.gr.i em
    have tk : as.take (i + 1) = as.take i ++ [as[i]] := by rw [List.take_add_one, ea]; rfl
    have ft : (as.take (i + 1)).flatMap (fun a => (bs a).map (out a)) = (as.take i).flatMap (fun a => (bs a).map (out a)) ++ (bs as[i]).map (out as[i]) := by rw [tk, List.flatMap_append]; simp
    have hsum : ((as.take i).flatMap fun a => (bs a).map (out a)).length + (bs as[i]).length ≤ 10000000 := by
      have e1 : (as.take (i + 1)).flatMap bs ++ (as.drop (i + 1)).flatMap bs = as.flatMap bs := by rw [← List.flatMap_append, List.take_append_drop]
      have e2 := congrArg List.length e1
      rw [List.length_append, tk, List.flatMap_append, List.length_append] at e2
      have e3 : ∀ l : List α, (l.flatMap fun a => (bs a).map (out a)).length = (l.flatMap bs).length := fun l => by
        induction l with
        | nil => rfl
        | cons a l ih => rw [List.flatMap_cons, List.flatMap_cons, List.length_append, List.length_append, List.length_map, ih]
      rw [e3]
      have e4 : ([as[i]].flatMap bs).length = (bs as[i]).length := by simp
      omega
    refine .inr ⟨go, fun H2 => ∃ G2, LcAt G1 H1 D ((as.take (i + 1)).flatMap fun a => (bs a).map (out a)) G2 H2, fun H2 h2 => ⟨as.length - (i + 1), by omega, rfl, hlt, h2⟩, fun x H2 y => ?_⟩
    obtain ⟨G2, g2, r2⟩ := yl x H2 y
    obtain ⟨env2, vs, hv, hle, st⟩ := step as[i] (List.getElem_mem hlt)
    have L2 := L.grow g2
    obtain ⟨zs, z1, z2, z3⟩ := L2.at_
    have nm0 : NoMu σ env D := (S.grow g1).noMu hD
    have S2 := ((S.grow (g1.trans L2.gr)).wipe (own.map (·.2))).wide (St.noMu_wipe nm0 _) z1 z2
    intro s Hc Cc cl fp
    refine (st s Hc Cc cl fp).1.run S2 x r2 _ fun σ3 S3w k3 => ⟨?_, ?_⟩
    · refine wipe_same (by rw [S3w.len, hle, S.len]) fun j hj => k3 j fun z => hj (hv j z)
    · obtain ⟨S3, nm⟩ := S3w.narrow (S.gr.trans (g1.trans L2.gr))
      refine yes_go ?_
      intro s Hc Cc cl fp
      refine (st s Hc Cc cl fp).2.1.run S3 _ fun J1 G4 H4 g4 W1 => ?_
      have L4 := L2.grow g4
      refine ⟨fun j k H' => k = (bs as[i]).length - j ∧ j ≤ (bs as[i]).length ∧ ∃ G', Same G4 G' ∧ GrD D G2 H2 G' H' ∧ LcAt G1 H1 D ((as.take i).flatMap (fun a => (bs a).map (out a)) ++ ((bs as[i]).take j).map (out as[i])) G' H', ⟨_, rfl, Nat.zero_le _, G4, Same.refl _, g4.off, by simpa using L4⟩, ?_⟩
      rintro j k H5 ⟨rfl, hj, G5, g45, g5, L5⟩
      have S5 := S3.off nm g5 (S.gr.trans (g1.trans L5.gr))
      by_cases hjt : j < (bs as[i]).length
      · have eb : (bs as[i])[j]? = some (bs as[i])[j] := List.getElem?_eq_getElem hjt
        have emb : ((bs as[i]).map (enc1 as[i]))[j]? = some (enc1 as[i] (bs as[i])[j]) := by rw [List.getElem?_map, eb]; rfl
        obtain ⟨go1, yl1⟩ := W1.go G5 H5 j _ g45 L5.gr.i emb
        have tkb : (bs as[i]).take (j + 1) = (bs as[i]).take j ++ [(bs as[i])[j]] := by rw [List.take_add_one, eb]; rfl
        refine .inr ⟨go1, fun H6 => ∃ G6, Same G4 G6 ∧ GrD D G2 H2 G6 H6 ∧ LcAt G1 H1 D ((as.take i).flatMap (fun a => (bs a).map (out a)) ++ ((bs as[i]).take (j + 1)).map (out as[i])) G6 H6, fun H6 h6 => ⟨_, by omega, rfl, hjt, h6⟩, fun x H6 y => ?_⟩
        obtain ⟨G6, g6, r6⟩ := yl1 x H6 y
        obtain ⟨env3, vs', hv', hle', st'⟩ := (st s Hc Cc cl fp).2.2 _ (List.getElem_mem hjt)
        have S6 := (S5.grow g6).wipe vs1
        intro s Hc Cc cl fp
        refine (st' s Hc Cc cl fp).1.run S6 x r6 _ fun σ7 S7 k7 => ⟨?_, ?_⟩
        · refine wipe_same (by rw [S7.len, S5.len, hle', hle]) fun j hj => k7 j fun z => hj (hv' j z)
        · refine yes_go ?_
          intro s Hc Cc cl fp
          refine (st' s Hc Cc cl fp).2.run S7 _ fun v G8 H8 g8 r8 => ?_
          have L8 := (L5.grow g6).grow g8
          obtain ⟨ys, f1, f2, f3⟩ := L8.at_
          obtain ⟨xs, e1, e2, L9⟩ := L8.push hD r8
          refine ⟨xs, e1, ?_, G8, g45.trans (g6.g.trans g8.g), (g5.trans (g6.trans g8).off fun _ => f2).upd, ?_⟩
          · rw [e2, List.length_append, List.length_map, List.length_take, sizeLine_eq]; omega
          · rw [tkb, List.map_append, ← List.append_assoc]; exact L9
      · have e : j = (bs as[i]).length := by omega
        subst e
        rw [List.take_of_length_le (Nat.le_refl _)] at L5
        have st1 := W1.stop G5 H5 g45 L5.gr.i
        rw [List.length_map] at st1
        refine .inl ⟨st1, G5, ?_⟩
        rw [ft]; exact L5
  · have e : i = as.length := by omega
    subst e
    rw [List.take_of_length_le (Nat.le_refl _)] at L
    have st := W.stop G' H' L.gr.g L.gr.i
    rw [List.length_map] at st
    exact .inl ⟨st, L.fin g1 hD q⟩
theorem dn_lc2 (enc : α → PyData) (as : List α) (enc1 : α → β → PyData) (bs : α → List β) (out : α → β → PyData) (vs1 : List Nat) (hc : X.calm = true) (FS : FnScope N ps sc) (hv1 : ∀ i ∈ vs1, i ∈ own.map (·.2)) (src : DI X C env tg iter (as.map enc)) (hlen : (as.flatMap bs).length ≤ 10000000)
    (step : ∀ a ∈ as, ∃ env2 vs, (∀ v ∈ vs, v ∈ own.map (·.2)) ∧ env2.length = env.length ∧ ∀ (s : Shared) (H : Hp) (Cc : Addr) (cl : List (Str × Addr)) (fp : List Addr),
      DG (blkY X scope s H Cc cl fp) C tg (enc a) (wipeD env (own.map (·.2))) env2 vs ∧ DI (blkY X scope s H Cc cl fp) C env2 tg1 iter1 ((bs a).map (enc1 a)) ∧
      ∀ b ∈ bs a, ∃ env3 vs', (∀ v ∈ vs', v ∈ vs1) ∧ env3.length = env.length ∧ ∀ (s : Shared) (H : Hp) (Cc : Addr) (cl : List (Str × Addr)) (fp : List Addr), DG (blkY X scope s H Cc cl fp) C tg1 (enc1 a b) (wipeD env2 vs1) env3 vs' ∧ DE (blkY X scope s H Cc cl fp) C env3 elt (out a b))
    (hs : ∀ x, foldedSetIterable iter X.env x = pure x := by intro _; rfl) (hs1 : ∀ env x, foldedSetIterable iter1 env x = pure x := by intro _ _; rfl) (ok : blkC N sc scope own = true := by decide +kernel) (e1 : X.N = N := by rfl) (e2 : X.env.scope = sc := by rfl) : DN X C env (.ListComp elt [⟨tg, iter, [], 0⟩, ⟨tg1, iter1, [], 0⟩] scope pos) (as.flatMap fun a => (bs a).map (out a)) := .mk fun S Q q =>
  wE_of (pe_lc2 hc (by rw [e1]; exact FS.nd) (wI_pi tg iter) (by rw [e1, e2]; exact blkOk_by ok) hv1 (fun s H Cc cl fp => ⟨fun pins s' σ H' v u Q I r h => h s H Cc cl fp pins s' u I r⟩) (fun s H Cc cl fp => pts_nil)
    (fun s H Cc cl fp => ⟨fun pins s' σ H' R I h => h s H Cc cl fp pins s' I⟩) (fun s H Cc cl fp => ⟨fun pins s' σ H' v u Q I r h => h s H Cc cl fp pins s' u I r⟩) (fun s H Cc cl fp => pts_nil)
    (fun s H Cc cl fp => ⟨fun pins s' σ H' Q I h => h s H Cc cl fp pins s' I⟩) hs hs1)
    (lc2_reads enc as enc1 bs out src hlen step S Q q)
end
end TD
namespace TD
open PySem L2
/-! ### statements -/
structure DEnds where
  nx : DEnv → Prop
  rt : PyData → DEnv → Prop
  bk : DEnv → Prop := fun _ => False
  ct : DEnv → Prop := fun _ => False
  rx : Hp → Hp → Hp → V → Prop := fun _ _ _ _ => False
structure EOk (C : Addr) (G0 H0 G : Hp) (D : DEnds) (E : Ends) : Prop where
  nx : ∀ G' H' σ' env', Same G G' → St C G0 H0 G' H' σ' env' → D.nx env' → E.nx σ' H'
  rt : ∀ G' H' σ' env' v d, Same G G' → St C G0 H0 G' H' σ' env' → Rp G' v d → D.rt d env' → E.rt v H'
  bk : ∀ G' H' σ' env', Same G G' → St C G0 H0 G' H' σ' env' → D.bk env' → E.bk σ' H'
  ct : ∀ G' H' σ' env', Same G G' → St C G0 H0 G' H' σ' env' → D.ct env' → E.ct σ' H'
  rx : ∀ G' H' v, Gr G0 H0 G' H' → D.rx H0 G' H' v → E.rt v H'
structure DS (X : Cx) (C : Addr) (st : Stmt) (env : DEnv) (D : DEnds) : Prop where
  run : ∀ {G0 H0 G H : Hp} {σ : L2.St}, St C G0 H0 G H σ env → ∀ E : Ends, EOk C G0 H0 G D E → wS X st E σ H
structure DB (X : Cx) (C : Addr) (st : List Stmt) (env : DEnv) (D : DEnds) : Prop where
  run : ∀ {G0 H0 G H : Hp} {σ : L2.St}, St C G0 H0 G H σ env → ∀ E : Ends, EOk C G0 H0 G D E → wSs X st E σ H
theorem EOk.later {C : Addr} {G0 H0 G G' : Hp} {D : DEnds} {E : Ends} (h : EOk C G0 H0 G D E) (s : Same G G') : EOk C G0 H0 G' D E :=
  ⟨fun G2 H2 σ2 e2 q => h.nx G2 H2 σ2 e2 (s.trans q), fun G2 H2 σ2 e2 v d q => h.rt G2 H2 σ2 e2 v d (s.trans q), fun G2 H2 σ2 e2 q => h.bk G2 H2 σ2 e2 (s.trans q), fun G2 H2 σ2 e2 q => h.ct G2 H2 σ2 e2 (s.trans q), h.rx⟩
section
variable {X : Cx} {C : Addr} {N ps : List Str} {sc : Scope} {env env1 env2 : DEnv} {st : Stmt} {rest body : List Stmt} {D : DEnds} {a b e tg : Expr} {d : PyData} {ds es : List PyData} {pos p2 p3 : Pos} {vs : List Nat} {n : Nat} {r : List (Nat × Nat)} {x y : Str}
theorem db_nil (h : D.nx env) : DB X C [] env D := .mk fun S E q => wSs_of pss_nil (q.nx _ _ _ _ (Same.refl _) S h)
theorem db_cons (h : DS X C st env { D with nx := fun e => DB X C rest e D }) : DB X C (st :: rest) env D := .mk fun S E q =>
  wSs_of (pss_cons (wS_ps st) (wSs_pss rest)) (h.run S { E with nx := wSs X rest E } ⟨fun G' H' σ' env' s S' h' => h'.run S' E (q.later s), q.rt, q.bk, q.ct, q.rx⟩)
theorem ds_pass (h : D.nx env) : DS X C (.Pass pos) env D := .mk fun S E q => wS_of ps_pass (q.nx _ _ _ _ (Same.refl _) S h)
/-! assignments -/
theorem ds_set (s : Nat) (he : DE X C env e d) (h : D.nx (env.set s (.v d))) (hN : X.N.Nodup) (hi : s < env.length := by exact Nat.le_of_ble_eq_true rfl) (hx : X.N[s]? = some x := by rfl) (hl : Loc X.env.scope x := by first | exact Or.inl rfl | exact Or.inr rfl)
    (hs : swapsWith e (some (.Name x p2)) pos.line X.env = pure false := by rfl) (hf : X.fn x = true ∨ X.env.scope.names.lookup x = some .local := by first | exact .inl rfl | exact .inr rfl) : DS X C (.Assign [.Name x p2] e pos) env D := .mk fun S E q =>
  wS_of (ps_set hN hx hl (wE_pe e) hs hf) (he.run S _ fun v G' H' g r => q.nx _ _ _ _ g.g ((S.grow g).put (e := .v d) hi rfl ⟨v, rfl, r⟩) h)
theorem ds_setW (s : Nat) (he : DW X C env e n r) (h : D.nx (env.set s (.web n r))) (hN : X.N.Nodup) (hi : s < env.length := by exact Nat.le_of_ble_eq_true rfl) (hx : X.N[s]? = some x := by rfl) (hl : Loc X.env.scope x := by first | exact Or.inl rfl | exact Or.inr rfl)
    (hs : swapsWith e (some (.Name x p2)) pos.line X.env = pure false := by rfl) (hf : X.fn x = true ∨ X.env.scope.names.lookup x = some .local := by first | exact .inl rfl | exact .inr rfl) : DS X C (.Assign [.Name x p2] e pos) env D := .mk fun S E q =>
  wS_of (ps_set hN hx hl (wE_pe e) hs hf) (he.run S _ fun v G' H' g r => q.nx _ _ _ _ g.g ((S.grow g).put (e := .web n _) hi rfl ⟨v, rfl, r⟩) h)
/-- a new list that will change -/
theorem ds_setN (s : Nat) (he : DN X C env e ds) (h : D.nx (env.set s (.mu ds))) (hN : X.N.Nodup) (hi : s < env.length := by exact Nat.le_of_ble_eq_true rfl) (hx : X.N[s]? = some x := by rfl) (hl : Loc X.env.scope x := by first | exact Or.inl rfl | exact Or.inr rfl)
    (hs : swapsWith e (some (.Name x p2)) pos.line X.env = pure false := by rfl) (hf : X.fn x = true ∨ X.env.scope.names.lookup x = some .local := by first | exact .inl rfl | exact .inr rfl) : DS X C (.Assign [.Name x p2] e pos) env D := .mk fun S E q =>
  wS_of (ps_set hN hx hl (wE_pe e) hs hf) (he.run S _ fun p xs G' H' g hp r => q.nx _ _ _ _ g.g ((S.grow g).putMu (e := .mu ds) hi hp ⟨p, xs, rfl, upd_same, g.i.free hp, r⟩) h)
/-- y = [.. for ..], y a local of the def -/
theorem ds_setLc {α : Type} {elt iter : Expr} {ifs : List Expr} {scope : Scope} {lpos : Pos} (s : Nat) (own : List (Str × Nat)) (enc : α → PyData) (as : List α) (keep : α → Bool) (out : α → PyData) (hc : X.calm = true) (FS : FnScope N ps sc) (src : DI X C env tg iter (as.map enc)) (hlen : as.length ≤ 10000000)
    (step : ∀ a ∈ as, ∃ env2 vs, (∀ v ∈ vs, v ∈ own.map (·.2)) ∧ env2.length = env.length ∧ ∀ (s : Shared) (H : Hp) (Cc : Addr) (cl : List (Str × Addr)) (fp : List Addr),
      DG (blkY X scope s H Cc cl fp) C tg (enc a) (wipeD env (own.map (·.2))) env2 vs ∧ DTs (blkY X scope s H Cc cl fp) C env2 ifs (keep a) ∧ (keep a = true → DE (blkY X scope s H Cc cl fp) C env2 elt (out a)))
    (h : D.nx (env.set s (.v (.list ((as.filter keep).map out)))))
    (hi : s < env.length := by exact Nat.le_of_ble_eq_true rfl) (hx : X.N[s]? = some x := by rfl) (hl : X.env.scope.names.lookup x = some .local := by rfl) (hsw : swapsWith (.ListComp elt [⟨tg, iter, ifs, 0⟩] scope lpos) (some (.Name x p2)) pos.line X.env = pure true := by exact sw_true rfl rfl rfl (by decide +kernel))
    (hs : ∀ x, foldedSetIterable iter X.env x = pure x := by intro _; rfl) (ok : blkC N sc scope own = true := by decide +kernel) (e1 : X.N = N := by rfl) (e2 : X.env.scope = sc := by rfl) : DS X C (.Assign [.Name x p2] (.ListComp elt [⟨tg, iter, ifs, 0⟩] scope lpos) pos) env D := .mk fun S E q =>
  wS_of (ps_setLc hc (by rw [e1]; exact FS.nd) hx hl hsw (wI_pi tg iter) (by rw [e1, e2]; exact blkOk_by ok) (fun s H Cc cl fp => ⟨fun pins s' σ H' v u Q I r h => h s H Cc cl fp pins s' u I r⟩)
    (fun s H Cc cl fp => ⟨fun pins s' σ H' Q I h => (wTs_pts ifs).run pins s' σ H' Q I (h s H Cc cl fp)⟩) (fun s H Cc cl fp => ⟨fun pins s' σ H' Q I h => h s H Cc cl fp pins s' I⟩) hs)
    (lc_reads enc as keep out src hlen step S _ fun p xs G' H' g hp r => by
      have g2 := Gr.new (.lst xs) g.i hp
      exact q.nx _ _ _ _ (g.g.trans g2.g) ((S.grow (g.trans g2)).put (e := .v (.list _)) hi rfl ⟨_, rfl, .lst upd_same (r.mono g2.g)⟩) h)
theorem ds_setLc2 {α β : Type} {elt iter tg1 iter1 : Expr} {scope : Scope} {lpos : Pos} (s : Nat) (own : List (Str × Nat)) (enc : α → PyData) (as : List α) (enc1 : α → β → PyData) (bs : α → List β) (out : α → β → PyData) (vs1 : List Nat) (hc : X.calm = true) (FS : FnScope N ps sc) (hv1 : ∀ i ∈ vs1, i ∈ own.map (·.2)) (src : DI X C env tg iter (as.map enc)) (hlen : (as.flatMap bs).length ≤ 10000000)
    (step : ∀ a ∈ as, ∃ env2 vs, (∀ v ∈ vs, v ∈ own.map (·.2)) ∧ env2.length = env.length ∧ ∀ (s : Shared) (H : Hp) (Cc : Addr) (cl : List (Str × Addr)) (fp : List Addr),
      DG (blkY X scope s H Cc cl fp) C tg (enc a) (wipeD env (own.map (·.2))) env2 vs ∧ DI (blkY X scope s H Cc cl fp) C env2 tg1 iter1 ((bs a).map (enc1 a)) ∧
      ∀ b ∈ bs a, ∃ env3 vs', (∀ v ∈ vs', v ∈ vs1) ∧ env3.length = env.length ∧ ∀ (s : Shared) (H : Hp) (Cc : Addr) (cl : List (Str × Addr)) (fp : List Addr), DG (blkY X scope s H Cc cl fp) C tg1 (enc1 a b) (wipeD env2 vs1) env3 vs' ∧ DE (blkY X scope s H Cc cl fp) C env3 elt (out a b))
    (h : D.nx (env.set s (.v (.list (as.flatMap fun a => (bs a).map (out a))))))
    (hi : s < env.length := by exact Nat.le_of_ble_eq_true rfl) (hx : X.N[s]? = some x := by rfl) (hl : X.env.scope.names.lookup x = some .local := by rfl) (hsw : swapsWith (.ListComp elt [⟨tg, iter, [], 0⟩, ⟨tg1, iter1, [], 0⟩] scope lpos) (some (.Name x p2)) pos.line X.env = pure true := by exact sw_true rfl rfl rfl (by decide +kernel))
    (hs : ∀ x, foldedSetIterable iter X.env x = pure x := by intro _; rfl) (hs1 : ∀ env x, foldedSetIterable iter1 env x = pure x := by intro _ _; rfl) (ok : blkC N sc scope own = true := by decide +kernel) (e1 : X.N = N := by rfl) (e2 : X.env.scope = sc := by rfl) : DS X C (.Assign [.Name x p2] (.ListComp elt [⟨tg, iter, [], 0⟩, ⟨tg1, iter1, [], 0⟩] scope lpos) pos) env D := .mk fun S E q =>
  wS_of (ps_setLc2 hc (by rw [e1]; exact FS.nd) hx hl hsw (wI_pi tg iter) (by rw [e1, e2]; exact blkOk_by ok) hv1 (fun s H Cc cl fp => ⟨fun pins s' σ H' v u Q I r h => h s H Cc cl fp pins s' u I r⟩) (fun s H Cc cl fp => pts_nil)
    (fun s H Cc cl fp => ⟨fun pins s' σ H' R I h => h s H Cc cl fp pins s' I⟩) (fun s H Cc cl fp => ⟨fun pins s' σ H' v u Q I r h => h s H Cc cl fp pins s' u I r⟩) (fun s H Cc cl fp => pts_nil)
    (fun s H Cc cl fp => ⟨fun pins s' σ H' Q I h => h s H Cc cl fp pins s' I⟩) hs hs1)
    (lc2_reads enc as enc1 bs out src hlen step S _ fun p xs G' H' g hp r => by
      have g2 := Gr.new (.lst xs) g.i hp
      exact q.nx _ _ _ _ (g.g.trans g2.g) ((S.grow (g.trans g2)).put (e := .v (.list _)) hi rfl ⟨_, rfl, .lst upd_same (r.mono g2.g)⟩) h)
/-- a target of several names -/
theorem ds_asg (he : DE X C env e d) (hg : DG X C tg d env env2 vs) (h : D.nx env2) (hs : swapsWithSole [tg] e pos.line X.env = pure false := by rfl) (hw : swappedStores [tg] e X.env = pure none := by rfl)
    (h1 : (assignEach [tg] X.env).map (·.2) = [assign tg X.env] := by rfl) : DS X C (.Assign [tg] e pos) env D := .mk fun S E q =>
  wS_of (ps_asg (wE_pe e) (wG_pg tg) hs hw h1) (he.run S _ fun v G' H' g r => hg.run (S.grow g) v r _ fun σ' S' _ => q.nx _ _ _ _ g.g S' h)
/-- a, b = x, y: two local names -/
theorem ds_par {d' : PyData} {px py pt : Pos} {kt k2 : Nat} {pt2 : Pos} (s t : Nat) (ha : DE X C env a d) (hb : DE X C env b d') (h : D.nx ((env.set s (.v d)).set t (.v d'))) (hc : X.calm = true) (hN : X.N.Nodup) (hi : s < env.length := by exact Nat.le_of_ble_eq_true rfl) (hj : t < env.length := by exact Nat.le_of_ble_eq_true rfl) (hij : s ≠ t := by decide)
    (hx : X.N[s]? = some x := by rfl) (hy : X.N[t]? = some y := by rfl) (hlx : X.env.scope.names.lookup x = some .local := by rfl) (hly : X.env.scope.names.lookup y = some .local := by rfl)
    (hw : swappedStores [.Tuple [.Name x px, .Name y py] kt pt] (.Tuple [a, b] k2 pt2) X.env = pure (some [x, y]) := by rfl) (hs : swapsWithSole [.Tuple [.Name x px, .Name y py] kt pt] (.Tuple [a, b] k2 pt2) pos.line X.env = pure false := by rfl)
    (he : starEach [a, b] X.env = (false, eval a X.env) :: starEach [b] X.env := by rfl) (he2 : starEach [b] X.env = (false, eval b X.env) :: starEach [] X.env := by rfl) :
    DS X C (.Assign [.Tuple [.Name x px, .Name y py] kt pt] (.Tuple [a, b] k2 pt2) pos) env D := .mk fun S E q =>
  wS_of (ps_par hc hN hx hy hij hlx hly (pa_cons (wE_pe a) (pa_cons (wE_pe b) pa_nil he2) he) hw hs)
    (ha.run S _ fun v G1 H1 g1 r1 => hb.run (S.grow g1) _ fun w G2 H2 g2 r2 => ⟨v, w, rfl, q.nx _ _ _ _ (g1.trans g2).g
      (((S.grow (g1.trans g2)).put (e := .v d) hi rfl ⟨v, rfl, r1.mono g2.g⟩).put (e := .v d') (by rw [List.length_set]; exact hj) rfl ⟨w, rfl, r2⟩) h⟩)
/-- .. the second a new list that will change -/
theorem ds_parN {px py pt : Pos} {kt k2 : Nat} {pt2 : Pos} (s t : Nat) (ha : DE X C env a d) (hb : DN X C env b ds) (h : D.nx ((env.set s (.v d)).set t (.mu ds))) (hc : X.calm = true) (hN : X.N.Nodup) (hi : s < env.length := by exact Nat.le_of_ble_eq_true rfl) (hj : t < env.length := by exact Nat.le_of_ble_eq_true rfl) (hij : s ≠ t := by decide)
    (hx : X.N[s]? = some x := by rfl) (hy : X.N[t]? = some y := by rfl) (hlx : X.env.scope.names.lookup x = some .local := by rfl) (hly : X.env.scope.names.lookup y = some .local := by rfl)
    (hw : swappedStores [.Tuple [.Name x px, .Name y py] kt pt] (.Tuple [a, b] k2 pt2) X.env = pure (some [x, y]) := by rfl) (hs : swapsWithSole [.Tuple [.Name x px, .Name y py] kt pt] (.Tuple [a, b] k2 pt2) pos.line X.env = pure false := by rfl)
    (he : starEach [a, b] X.env = (false, eval a X.env) :: starEach [b] X.env := by rfl) (he2 : starEach [b] X.env = (false, eval b X.env) :: starEach [] X.env := by rfl) :
    DS X C (.Assign [.Tuple [.Name x px, .Name y py] kt pt] (.Tuple [a, b] k2 pt2) pos) env D := .mk fun S E q =>
  wS_of (ps_par hc hN hx hy hij hlx hly (pa_cons (wE_pe a) (pa_cons (wE_pe b) pa_nil he2) he) hw hs)
    (ha.run S _ fun v G1 H1 g1 r1 => hb.run (S.grow g1) _ fun p xs G2 H2 g2 hp r2 => ⟨v, .ref p, rfl, q.nx _ _ _ _ (g1.trans g2).g
      (((S.grow (g1.trans g2)).put (e := .v d) hi rfl ⟨v, rfl, r1.mono g2.g⟩).putMu (e := .mu ds) (by rw [List.length_set]; exact hj) hp ⟨p, xs, rfl, upd_same, g2.i.free hp, r2⟩) h⟩)
/-- .. the first one -/
theorem ds_parN1 {px py pt : Pos} {kt k2 : Nat} {pt2 : Pos} (s t : Nat) (ha : DN X C env a ds) (hb : DE X C env b d) (h : D.nx ((env.set s (.mu ds)).set t (.v d))) (hc : X.calm = true) (hN : X.N.Nodup) (hi : s < env.length := by exact Nat.le_of_ble_eq_true rfl) (hj : t < env.length := by exact Nat.le_of_ble_eq_true rfl) (hij : s ≠ t := by decide)
    (hx : X.N[s]? = some x := by rfl) (hy : X.N[t]? = some y := by rfl) (hlx : X.env.scope.names.lookup x = some .local := by rfl) (hly : X.env.scope.names.lookup y = some .local := by rfl)
    (hw : swappedStores [.Tuple [.Name x px, .Name y py] kt pt] (.Tuple [a, b] k2 pt2) X.env = pure (some [x, y]) := by rfl) (hs : swapsWithSole [.Tuple [.Name x px, .Name y py] kt pt] (.Tuple [a, b] k2 pt2) pos.line X.env = pure false := by rfl)
    (he : starEach [a, b] X.env = (false, eval a X.env) :: starEach [b] X.env := by rfl) (he2 : starEach [b] X.env = (false, eval b X.env) :: starEach [] X.env := by rfl) :
    DS X C (.Assign [.Tuple [.Name x px, .Name y py] kt pt] (.Tuple [a, b] k2 pt2) pos) env D := .mk fun S E q =>
  wS_of (ps_par hc hN hx hy hij hlx hly (pa_cons (wE_pe a) (pa_cons (wE_pe b) pa_nil he2) he) hw hs)
    (ha.run S _ fun p xs G1 H1 g1 hp r1 => by
      have S1 := S.grow (g1.trans (Gr.mut (.lst xs) g1.i hp))
      have nm : NoMu _ env p := (S.grow g1).noMu hp
      have Sw := S1.wide nm upd_same (g1.i.free hp)
      refine hb.run Sw _ fun w G2 H2 g2 r2 => ⟨.ref p, w, rfl, ?_⟩
      have g12 := (g1.trans (Gr.mut (.lst xs) g1.i hp)).trans g2
      have hpG : G2 p = none := g2.n p _ (g1.i.free hp) upd_same rfl
      have hp2 : H2 p = some (.lst xs) := g2.h _ _ upd_same
      -- without p, then p anew
      have gd : Gr _ _ G2 (del H2 p) := ⟨g12.g, fun b u z => by
        have ne : b ≠ p := fun w => by subst w; rw [g1.h.free hp] at z; cases z
        rw [del_ne ne]; exact g12.h b u z, fun b u z => by rw [del_ne (ne_of_none z hpG)]; exact g12.i b u z, g12.n⟩
      have S2 := (((S.grow gd).putMu hi del_same (o := .lst xs) (e := .mu ds) ⟨p, xs, rfl, upd_same, hpG, r1.mono g2.g⟩).put (i := t) (e := .v d) (by rw [List.length_set]; exact hj) rfl ⟨w, rfl, r2⟩)
      rw [del_upd hp2] at S2
      exact q.nx _ _ _ _ g12.g S2 h)
/-! calls for what they do -/
theorem ds_expr (he : DE X C env e d) (h : D.nx env) (hs : swapsWith e none pos.line X.env = pure false := by rfl) : DS X C (.Expr e pos) env D := .mk fun S E q =>
  wS_of (ps_expr (wE_pe e) hs) (he.run S _ fun v G' H' g r => q.nx _ _ _ _ g.g (S.grow g) h)
theorem ds_append {apos cpos np : Pos} (s : Nat) (hm : env[s]? = some (.mu ds)) (he : DE X C env e d) (hl : ds.length < 10000000) (h : D.nx (env.set s (.mu (ds ++ [d])))) (hx : X.N[s]? = some x := by rfl) (hv : Vis X.env.scope x := by first | exact Or.inl rfl | exact Or.inr (Or.inl rfl) | exact Or.inr (Or.inr rfl))
    (hd : (x == ("__debug__" : Str)) = false := by decide) (hcd : (x == ("__classdict__" : Str)) = false := by decide) (hse : starEach [e] X.env = (false, eval e X.env) :: starEach [] X.env := by rfl)
    (hbase : attributeBase (.Name x np) "append" X.env (eval (.Name x np) X.env) = eval (.Name x np) X.env := by rfl) (hline : (apos.endLine == cpos.line) = true := by rfl) (hs : swapsWith (.Call (.Attribute (.Name x np) "append" apos) [e] [] cpos) none pos.line X.env = pure false := by rfl)
    (hfew : ((backTo cpos (starEach [e] X.env)).all (fun x => !x.1) && (backToKw cpos (keywordEach [] X.env)).all (fun x => x.1.isSome) && decide ([e].length + ([] : List Keyword).length + (if ([] : List Keyword).isEmpty then 0 else 1) < 30)) = true := by rfl) (hpl : (backTo cpos (starEach [] X.env)).any (·.1) = false := by rfl) :
    DS X C (.Expr (.Call (.Attribute (.Name x np) "append" apos) [e] [] cpos) pos) env D := .mk fun S E q => by
  obtain ⟨a, xs, h1, h2, h3, h4⟩ := S.mu hm
  have hi : s < env.length := (List.getElem?_eq_some_iff.mp hm).1
  refine wS_of (ps_expr (pe_bm PySem.F.plainAttrs_list PySem.F.slot_list_append PySem.F.type_list_append mt_append (pe_var hx hv hd hcd) (pa_cons (wE_pe e) pa_nil hse) hbase hfew hline hse hpl) hs)
    ⟨_, h1, .inl ⟨rfl, _, SqL.of h2⟩, he.run S _ fun v G' H' g r => ⟨a, xs, v, rfl, rfl, g.h _ _ h2, by rw [h4.length, sizeLine_eq]; omega, ?_⟩⟩
  have hG := g.n a _ h3 h2 rfl
  exact q.nx _ _ _ _ g.g ((S.grow g).change (e := .mu _) hi ⟨_, hm, rfl⟩ rfl h1 hG (by rw [g.h _ _ h2]; simp) ⟨a, _, rfl, upd_same, hG, (h4.mono g.g).append (.cons r .nil)⟩) h
theorem ds_extend {apos cpos np : Pos} (s : Nat) (hm : env[s]? = some (.mu ds)) (he : DE X C env e (.list es)) (hl : ds.length + es.length ≤ 10000000) (h : D.nx (env.set s (.mu (ds ++ es)))) (hx : X.N[s]? = some x := by rfl) (hv : Vis X.env.scope x := by first | exact Or.inl rfl | exact Or.inr (Or.inl rfl) | exact Or.inr (Or.inr rfl))
    (hd : (x == ("__debug__" : Str)) = false := by decide) (hcd : (x == ("__classdict__" : Str)) = false := by decide) (hse : starEach [e] X.env = (false, eval e X.env) :: starEach [] X.env := by rfl)
    (hbase : attributeBase (.Name x np) "extend" X.env (eval (.Name x np) X.env) = eval (.Name x np) X.env := by rfl) (hline : (apos.endLine == cpos.line) = true := by rfl) (hs : swapsWith (.Call (.Attribute (.Name x np) "extend" apos) [e] [] cpos) none pos.line X.env = pure false := by rfl)
    (hfew : ((backTo cpos (starEach [e] X.env)).all (fun x => !x.1) && (backToKw cpos (keywordEach [] X.env)).all (fun x => x.1.isSome) && decide ([e].length + ([] : List Keyword).length + (if ([] : List Keyword).isEmpty then 0 else 1) < 30)) = true := by rfl) (hpl : (backTo cpos (starEach [] X.env)).any (·.1) = false := by rfl) :
    DS X C (.Expr (.Call (.Attribute (.Name x np) "extend" apos) [e] [] cpos) pos) env D := .mk fun S E q => by
  obtain ⟨a, xs, h1, h2, h3, h4⟩ := S.mu hm
  have hi : s < env.length := (List.getElem?_eq_some_iff.mp hm).1
  refine wS_of (ps_expr (pe_bm PySem.F.plainAttrs_list PySem.F.slot_list_extend PySem.F.type_list_extend mt_extend (pe_var hx hv hd hcd) (pa_cons (wE_pe e) pa_nil hse) hbase hfew hline hse hpl) hs)
    ⟨_, h1, .inl ⟨rfl, _, SqL.of h2⟩, he.run S _ fun v G' H' g r => ?_⟩
  cases r with
  | lst e1 r1 =>
    have hG := g.n a _ h3 h2 rfl
    refine ⟨a, _, xs, _, rfl, rfl, g.h _ _ h2, g.i _ _ e1, by rw [h4.length, r1.length, sizeLine_eq]; omega, ?_⟩
    exact q.nx _ _ _ _ g.g ((S.grow g).change (e := .mu _) hi ⟨_, hm, rfl⟩ rfl h1 hG (by rw [g.h _ _ h2]; simp) ⟨a, _, rfl, upd_same, hG, (h4.mono g.g).append r1⟩) h
/-- xs[i] = e -/
theorem ixN_nat {n j : Nat} (hj : j < n) : ixN n (j : Int) = some j := by
  unfold ixN
  rw [if_pos (by omega), if_pos (by omega)]
  simp
theorem ixN_int {n : Nat} {k : Int} (h0 : 0 ≤ k) (h1 : k < n) : ixN n k = some k.toNat := by
  unfold ixN
  rw [if_pos h0, if_pos h1]
theorem ds_setI {i : Expr} {j : Nat} {np spos : Pos} (s : Nat) (hm : env[s]? = some (.mu ds)) (he : DE X C env e d) (hi : DE X C env i (dI j)) (hj : j < ds.length) (h : D.nx (env.set s (.mu (ds.set j d)))) (hx : X.N[s]? = some x := by rfl) (hv : Vis X.env.scope x := by first | exact Or.inl rfl | exact Or.inr (Or.inl rfl) | exact Or.inr (Or.inr rfl))
    (hd : (x == ("__debug__" : Str)) = false := by decide) (hcd : (x == ("__classdict__" : Str)) = false := by decide) (ha : ∀ v, assign (.Subscript (.Name x np) i spos) X.env v = (do
      let ov ← holding [v] (eval (.Name x np) X.env)
      let iv ← holding [v, ov] (eval i X.env)
      standAt spos
      holding [v, ov, iv] (setItem ov iv v)
      release [v, ov, iv] []) := by intro _; rfl)
    (hs : swapsWithSole [.Subscript (.Name x np) i spos] e pos.line X.env = pure false := by rfl) (hw : swappedStores [.Subscript (.Name x np) i spos] e X.env = pure none := by rfl) (h1 : (assignEach [.Subscript (.Name x np) i spos] X.env).map (·.2) = [assign (.Subscript (.Name x np) i spos) X.env] := by rfl) :
    DS X C (.Assign [.Subscript (.Name x np) i spos] e pos) env D := .mk fun S E q => by
  obtain ⟨a, xs, k1, k2, k3, k4⟩ := S.mu hm
  have hs' : s < env.length := (List.getElem?_eq_some_iff.mp hm).1
  refine wS_of (ps_asg (wE_pe e) (pg_sub (pe_var hx hv hd hcd) (wE_pe i) set_list ha) hs hw h1) (he.run S _ fun v G1 H1 g1 r1 => ⟨_, k1, hi.run (S.grow g1) _ fun w G2 H2 g2 r2 => ?_⟩)
  cases r2
  have g := g1.trans g2
  have hG := g.n a _ k3 k2 rfl
  refine ⟨a, xs, (j : Int), j, rfl, rfl, g.h _ _ k2, ixN_nat (by rw [k4.length]; exact hj), ?_⟩
  exact q.nx _ _ _ _ g.g ((S.grow g).change (e := .mu _) hs' ⟨_, hm, rfl⟩ rfl k1 hG (by rw [g.h _ _ k2]; simp) ⟨a, _, rfl, upd_same, hG, (k4.mono g.g).set (r1.mono g2.g) j⟩) h
/-- xs[i] += e -/
theorem get_list : PGet X (rIxL X.K) := by
  intro pins s σ H x y v u Q I rx ry h
  obtain ⟨p, xs, i, z, rfl, rfl, hq, he, q⟩ := h
  cases rx
  obtain ⟨t, rfl⟩ := ry
  obtain ⟨its, r, pl, hz⟩ := I.list hq
  obtain ⟨j, h1, h2, h3, h4, h5⟩ := atI_get he
  obtain ⟨w, ew, rw'⟩ := r.get h2
  have hl := r.length
  have hn := line63
  have fin : EP X pins σ Q w s := ⟨z, H, I, rw', q⟩
  by_cases h0 : 0 ≤ i
  · have hj : i.toNat = j := by
      rw [seqIndex_of h0 h5] at h1
      exact Option.some.inj h1
    exact wpAny_mono (wpAny_getItem_list (x := w) (Q := fun r s' => r = w ∧ EP X pins σ Q r s') pl.isList h0 (by omega) (by rw [hj]; simpa using ew) ⟨rfl, fin⟩) (fun _ _ q => q.2) fun _ _ q => q
  · have hj : (i + (its.toArray.size : Int)).toNat = j := by
      rw [seqIndex_neg (by omega) h4] at h1
      rw [List.size_toArray, ← hl]
      exact Option.some.inj h1
    exact wpAny_mono (wpAny_getItem_list_neg (x := w) (Q := fun r s' => r = w ∧ EP X pins σ Q r s') pl.isList (by omega) (by rw [List.size_toArray] <;> omega) (by omega) (by rw [hj]; simpa using ew) ⟨rfl, fin⟩) (fun _ _ q => q.2) fun _ _ q => q
theorem ds_augI {i : Expr} {j : Nat} {k l : Int} {np spos : Pos} (s : Nat) (hm : env[s]? = some (.mu ds)) (hi : DE X C env i (dI j)) (hj : ds[j]? = some (.int k)) (he : DE X C env e (.int l)) (h : D.nx (env.set s (.mu (ds.set j (.int (k + l)))))) (hx : X.N[s]? = some x := by rfl) (hv : Vis X.env.scope x := by first | exact Or.inl rfl | exact Or.inr (Or.inl rfl) | exact Or.inr (Or.inr rfl))
    (hd : (x == ("__debug__" : Str)) = false := by decide) (hcd : (x == ("__classdict__" : Str)) = false := by decide) (ha : ∀ ov iv new, augStore i ov iv new = (do holding [new, ov, iv] (setItem ov iv new); release [new, ov, iv] []; pure .next) := by intros; rfl) :
    DS X C (.AugAssign (.Subscript (.Name x np) i spos) .Add e pos) env D := .mk fun S E q => by
  obtain ⟨a, xs, k1, k2, k3, k4⟩ := S.mu hm
  have hs' : s < env.length := (List.getElem?_eq_some_iff.mp hm).1
  have hjl : j < ds.length := (List.getElem?_eq_some_iff.mp hj).1
  refine wS_of (ps_augS (pe_var hx hv hd hcd) (wE_pe i) get_list (wE_pe e) ip_add set_list ha) ⟨_, k1, hi.run S _ fun w G1 H1 g1 r1 => ?_⟩
  cases r1
  obtain ⟨v, e1, e2⟩ := (k4.mono g1.g).get hj
  cases e2
  refine ⟨a, xs, (j : Int), .int k, rfl, rfl, SqL.of (g1.h _ _ k2), atI_nat e1, he.run (S.grow g1) _ fun w G2 H2 g2 r2 => ?_⟩
  cases r2
  have g := g1.trans g2
  have hG := g.n a _ k3 k2 rfl
  refine ⟨k, l, rfl, rfl, a, xs, (j : Int), j, rfl, rfl, g.h _ _ k2, ixN_nat (by rw [k4.length]; exact hjl), ?_⟩
  exact q.nx _ _ _ _ g.g ((S.grow g).change (e := .mu _) hs' ⟨_, hm, rfl⟩ rfl k1 hG (by rw [g.h _ _ k2]; simp) ⟨a, _, rfl, upd_same, hG, (k4.mono g.g).set (.int _) j⟩) h
/-! if, return, loops -/
theorem ds_if {c : Expr} {th el : List Stmt} {k : Bool} (hc : DT X C env c k) (h1 : k = true → DB X C th env D) (h2 : k = false → DB X C el env D) : DS X C (.If c th el pos) env D := .mk fun S E q =>
  wS_of (ps_if (wT_pt c) (wSs_pss th) (wSs_pss el)) (hc.run S _ fun G' H' g => by
    cases k with
    | true => exact (h1 rfl).run (S.grow g) E (q.later g.g)
    | false => exact (h2 rfl).run (S.grow g) E (q.later g.g))
theorem ds_ret (he : DE X C env e d) (h : D.rt d env) : DS X C (.Return (some e) pos) env D := .mk fun S E q =>
  wS_of (ps_ret (wE_pe e)) (he.run S _ fun v G' H' g r => q.rt G' H' _ _ v d g.g (S.grow g) r h)
theorem db_freeze (s : Nat) (hm : env[s]? = some (.mu ds)) {sts : List Stmt} (h : DB X C sts (env.set s (.v (.list ds))) D) : DB X C sts env D := .mk fun S E q => by
  obtain ⟨G', _, s1, S'⟩ := S.freeze hm
  exact h.run S' E (q.later s1)
theorem ds_for {it : Expr} (I : Nat → DEnv → Prop) (hp : PassesOwn (model X.prog X.w) X.A X.env X.xe) (hc : X.calm = true) (src : DI X C env tg it ds) (h0 : I 0 env)
    (turn : ∀ i d env1, ds[i]? = some d → I i env1 → ∃ env2 vs, DG X C tg d env1 env2 vs ∧ DB X C body env2 { nx := I (i + 1), rt := D.rt, bk := D.nx, ct := I (i + 1), rx := D.rx })
    (done : ∀ env1, I ds.length env1 → D.nx env1) (hs : ∀ x, foldedSetIterable it X.env x = pure x := by intro _; rfl) : DS X C (.For tg it body [] pos) env D := .mk fun S E q => by
  refine wS_of (ps_for hp hc (wI_pi tg it) (wG_pg tg) (wSs_pss body) hs) (src.run S _ fun J G1 H1 g1 W => ?_)
  refine ⟨fun i m σ' H' => m = ds.length - i ∧ i ≤ ds.length ∧ ∃ G' env1, Same G1 G' ∧ St C _ _ G' H' σ' env1 ∧ I i env1, ⟨_, rfl, Nat.zero_le _, G1, env, Same.refl _, S.grow g1, h0⟩, ?_⟩
  rintro i m σ' H' ⟨rfl, hi, G', env1, s1, S1, i1⟩
  by_cases hlt : i < ds.length
  · have ed : ds[i]? = some ds[i] := List.getElem?_eq_getElem hlt
    obtain ⟨go, yl⟩ := W.go G' H' i _ s1 S1.same ed
    refine .inr ⟨go, fun σ2 H2 => ∃ G2 env2, Same G1 G2 ∧ St C _ _ G2 H2 σ2 env2 ∧ I (i + 1) env2, fun σ2 H2 h2 => ⟨ds.length - (i + 1), by omega, rfl, hlt, h2⟩, fun x H2 y => ?_⟩
    obtain ⟨G2, g2, r2⟩ := yl x H2 y
    obtain ⟨env2, vs, hg, hb⟩ := turn i _ env1 ed i1
    refine hg.run (S1.grow g2) x r2 _ fun σ3 S3 _ => hb.run S3 _ ⟨fun G' H' σ' env' s' S' h' => ⟨G', env', s1.trans (g2.g.trans s'), S', h'⟩, fun G' H' σ' env' v d s' => q.rt G' H' σ' env' v d (g1.g.trans (s1.trans (g2.g.trans s'))), fun G' H' σ' env' s' S' h' => q.nx _ _ _ _ (g1.g.trans (s1.trans (g2.g.trans s'))) S' h', fun G' H' σ' env' s' S' h' => ⟨G', env', s1.trans (g2.g.trans s'), S', h'⟩, q.rx⟩
  · have e : i = ds.length := by omega
    subst e
    exact .inl ⟨W.stop G' H' s1 S1.same, q.nx _ _ _ _ (g1.g.trans s1) S1 (done env1 i1)⟩
theorem ds_while {c : Expr} (I : Nat → DEnv → Prop) (hp : PassesOwn (model X.prog X.w) X.A X.env X.xe) (m0 : Nat) (h0 : I m0 env)
    (turn : ∀ m env1, I m env1 → ∃ k, DT X C env1 c k ∧ (k = true → DB X C body env1 { nx := fun e => ∃ m', m' < m ∧ I m' e, rt := D.rt, bk := D.nx, ct := fun e => ∃ m', m' < m ∧ I m' e, rx := D.rx }) ∧ (k = false → D.nx env1)) : DS X C (.While c body [] pos) env D := .mk fun S E q => by
  refine wS_of (ps_while hp (wT_pt c) (wSs_pss body)) ⟨fun m σ' H' => ∃ G' env1, Same _ G' ∧ St C _ _ G' H' σ' env1 ∧ I m env1, ⟨m0, _, env, Same.refl _, S, h0⟩, ?_⟩
  rintro m σ' H' ⟨G', env1, s1, S1, i1⟩
  obtain ⟨k, hc, h1, h2⟩ := turn m env1 i1
  refine hc.run S1 _ fun G2 H2 g2 => ?_
  cases k with
  | true =>
    refine iteT ⟨fun σ2 H2 => ∃ m', m' < m ∧ ∃ G2 env2, Same _ G2 ∧ St C _ _ G2 H2 σ2 env2 ∧ I m' env2, fun σ2 H2 h2 => h2, ?_⟩
    exact (h1 rfl).run (S1.grow g2) _ ⟨fun G' H' σ' env' s' S' ⟨m', l, h'⟩ => ⟨m', l, G', env', s1.trans (g2.g.trans s'), S', h'⟩, fun G' H' σ' env' v d s' => q.rt G' H' σ' env' v d (s1.trans (g2.g.trans s')), fun G' H' σ' env' s' S' h' => q.nx _ _ _ _ (s1.trans (g2.g.trans s')) S' h', fun G' H' σ' env' s' S' ⟨m', l, h'⟩ => ⟨m', l, G', env', s1.trans (g2.g.trans s'), S', h'⟩, q.rx⟩
  | false =>
    refine iteF ?_
    exact q.nx _ _ _ _ (s1.trans g2.g) (S1.grow g2) (h2 rfl)
end
/-! ### a def of the text -/
theorem args_len {C : Addr} {G : Hp} : ∀ {vs : List V} {sl : List Sl}, ArgsOk C G vs sl → vs.length = sl.length
  | _, _, .nil => rfl
  | _, _, .v _ t => congrArg (· + 1) (args_len t)
  | _, _, .w _ t => congrArg (· + 1) (args_len t)
  | _, _, .n t => congrArg (· + 1) (args_len t)
theorem args_get {C : Addr} {G H : Hp} : ∀ {vs : List V} {sl : List Sl} {i : Nat} {e : Sl}, ArgsOk C G vs sl → sl[i]? = some e → SlOk C G H e ((vs.map some)[i]?) ∧ e.isMu = false
  | _, _, 0, _, .v h _, q => by cases q; exact ⟨⟨_, rfl, h⟩, rfl⟩
  | _, _, 0, _, .w h _, q => by cases q; exact ⟨⟨_, rfl, h⟩, rfl⟩
  | _, _, 0, _, .n _, q => by cases q; exact ⟨trivial, rfl⟩
  | _, _, i + 1, e, .v h t, q => by simpa using args_get (i := i) (e := e) t (by simpa using q)
  | _, _, i + 1, e, .w h t, q => by simpa using args_get (i := i) (e := e) t (by simpa using q)
  | _, _, i + 1, e, .n t, q => by simpa using args_get (i := i) (e := e) t (by simpa using q)
def startD (N : List Str) (sl : List Sl) : DEnv := sl ++ List.replicate (N.length - sl.length) .no
theorem st_start {C : Addr} {G H : Hp} {N : List Str} {vs : List V} {sl : List Sl} (s : Same G H) (h : ArgsOk C G vs sl) : St C G H G H (L2.start N vs) (startD N sl) := by
  have hl := args_len h
  have notMu : ∀ i, ¬ Mu (startD N sl) i := fun i ⟨e, h1, h2⟩ => by
    unfold startD at h1
    by_cases hi : i < sl.length
    · rw [List.getElem?_append_left hi] at h1
      rw [(args_get (H := H) h h1).2] at h2; cases h2
    · rw [List.getElem?_append_right (by omega), List.getElem?_replicate] at h1
      split at h1
      · cases h1; cases h2
      · cases h1
  refine ⟨Gr.refl s, ?_, fun i e q => ?_, fun i j a _ m => absurd m (notMu i), fun i a m => absurd m (notMu i)⟩
  · unfold L2.start startD
    rw [List.length_append, List.length_append, List.length_map, List.length_replicate, List.length_replicate, hl]
  · unfold startD at q
    unfold L2.start
    by_cases hi : i < sl.length
    · rw [List.getElem?_append_left hi] at q
      rw [List.getElem?_append_left (by rw [List.length_map]; omega)]
      exact (args_get (H := H) h q).1
    · rw [List.getElem?_append_right (by omega), List.getElem?_replicate] at q
      split at q
      · cases q; trivial
      · cases q
theorem mkFn {P : Program} {w : World} {K : PySem.W.Frag} {mg : Str → Option Value} {base : Heap} {C : Addr} {x qual : Str} {st : Stmt} {f : Addr} {fd : FuncData} {N ps : List Str} {k : Nat} {R : List Sl → PyData → Prop} (F : Fun K x qual st f fd) (S : FnScope N ps (defScope st)) (len : ∀ sl d, R sl d → sl.length = ps.length)
    (body : ∀ (cdv : Value) (A : Around) (outer : List Env) (s : Shared) (H : Hp) (E : XK), Room k (A.deeper (PyProof.Rows.envOfC qual (defScope st) s.heap.objs.size f cdv)) → ∀ sl d, R sl d →
      DB (cxOf CX0 P w K mg base N qual (defScope st) f cdv A outer s H E).nox C (defBody st) (startD N sl) { nx := fun _ => d = .none, rt := fun d' _ => d' = d }) : FnOk P w K mg base CX0 (k + 1) f fd ps (spD C R) := by
  refine F.ok S (fun vs H Q E h => ?_) (fun cdv A outer s H vs Q E hr h => ?_)
  · obtain ⟨G, sl, d, _, ha, hR, _⟩ := h
    rw [args_len ha]; exact len sl d hR
  · obtain ⟨G, sl, d, hs, ha, hR, q⟩ := h
    refine ⟨_, wSs_pss _, (body cdv A outer s H E hr sl d hR).run (st_start hs ha) _ ⟨fun G' H' σ' env' _ S' e => ?_, fun G' H' σ' env' v d' _ S' r e => ?_, fun _ _ _ _ _ _ z => z.elim, fun _ _ _ _ _ _ z => z.elim, fun _ _ _ _ z => z.elim⟩⟩
    · have e : d = .none := e
      subst e
      exact q .non G' H' S'.gr .non
    · have e : d' = d := e
      subst e
      exact q v G' H' S'.gr r
end TD
/-! zip of two tuples, walked by ONE name: the pair given out may still be held -/
namespace TD
open PySem PySem.Spec PyProof.Rows L2
abbrev ZAt (h : Heap) (z TI TO : Addr) (f0 : Value) (f : Bool) : Prop :=
  h.get? z = some { cls := .type "zip", dict := none, data := .fields #[f0, .bool f, .bool false, .ref TI, .ref TO], slots := #[] }
def ZFree (f0 : Value) : Prop := f0 = .none ∨ ∃ T : Nat, f0 = rawInt T
/-- the parts of a zip: its two iterators in TI, its own pair TO -/
structure ZPt (h : Heap) (TI TO i1 i2 l1 l2 : Addr) (k : Nat) (xs ys : Array Value) : Prop where
  ti : IsPair h TI (.ref i1) (.ref i2)
  to_ : ∃ a b, IsPair h TO a b
  j1 : h.IsTupleIter i1 l1 k
  j2 : h.IsTupleIter i2 l2 k
  t1 : h.IsTuple l1 xs
  t2 : h.IsTuple l2 ys
section
variable {prog : Program} {w : World} {A : Around} {E : Value → Shared → Prop} {s : Shared}
theorem alive_any {a : Addr} {Q : Option Obj → Shared → Prop} (h : Q (s.heap.get? a) s) : wpAny (model prog w) A (loadIfAlive a) Q E s := fun _ _ _ => h
theorem zown {z TI TO : Addr} {f0 : Value} {f : Bool} {Q : Bool → Shared → Prop} (hz : ZAt s.heap z TI TO f0 f) (h0 : ZFree f0) (h1 : Q true s)
    (h2 : ∀ h', ZAt h' z TI TO f0 true → Heap.SameBut z s.heap h' → Q false { s with heap := h' }) : wpAny (model prog w) A (Builtin.SmallTypes.ownedTupleIsFree (.ref z)) Q E s := by
  unfold Builtin.SmallTypes.ownedTupleIsFree
  rcases h0 with rfl | ⟨T, rfl⟩
  · exact wpAny_bind (wpAny_field hz rfl (x := .none) rfl (wpAny_pure h1))
  · refine wpAny_bind (wpAny_field hz rfl (x := rawInt T) rfl ?_)
    show wpAny _ _ (loadIfAlive ((T : Int).toNat) >>= _) _ _ _
    rw [Int.toNat_natCast]
    refine wpAny_bind (alive_any ?_)
    cases s.heap.get? T with
    | none => exact wpAny_pure h1
    | some o =>
      simp only [Option.isNone_some, Bool.false_eq_true, if_false]
      refine wpAny_bind (wpAny_field hz rfl (x := .bool f) rfl ?_)
      cases f with
      | true => exact wpAny_pure (h2 _ hz (Heap.SameBut.refl _ _))
      | false => exact wpAny_bind (wpAny_setField_rec hz (by simp) fun h' q1 q2 => wpAny_pure (h2 h' q1 q2))
abbrev Off (z TO i1 i2 : Addr) (h h' : Heap) : Prop := ∀ c o, c ≠ z → c ≠ TO → c ≠ i1 → c ≠ i2 → h.get? c = some o → h'.get? c = some o
theorem znext {z TI TO i1 i2 l1 l2 : Addr} {k : Nat} {xs ys : Array Value} {x y f0 : Value} {f : Bool} {Q : Value → Shared → Prop} (D : ZipApart z TI TO i1 i2 l1 l2) (hz : ZAt s.heap z TI TO f0 f) (h0 : ZFree f0) (P : ZPt s.heap TI TO i1 i2 l1 l2 k xs ys) (hx : xs[k]? = some x) (hy : ys[k]? = some y)
    (hQ : ∀ h' g0 g, ZAt h' z TI TO g0 g → ZFree g0 → ZPt h' TI TO i1 i2 l1 l2 (k + 1) xs ys → IsPair h' s.heap.objs.size x y → Off z TO i1 i2 s.heap h' → Q (.ref s.heap.objs.size) { s with heap := h' }) :
    wpAny (model prog w) A (Builtin.«zip.__next__» ⟨[.ref z], []⟩) (fun fin s' => ∃ v, fin = .done (.ret v) ∧ Q v s') E s := by
  obtain ⟨ti, ⟨a, b, to⟩, j1, j2, t1, t2⟩ := P
  show wpAny _ _ (field (.ref z) 2 >>= _) _ _ _
  refine wpAny_bind (wpAny_field hz rfl (x := .bool false) rfl ?_)
  refine wpAny_bind (wpAny_field hz rfl (x := .ref TI) rfl (wpAny_bind (wpAny_seqItems ti rfl ?_)))
  show wpAny _ _ (Builtin.SmallTypes.ownedTupleIsFree (.ref z) >>= _) _ _ _
  refine wpAny_bind (zown hz h0 ?_ fun H1 z1 b1 => ?_)
  · -- its own pair once more
    simp only [if_true]
    refine wpAny_bind (wpAny_rule (wpAny_bind (wpAny_field hz rfl (x := .ref TO) rfl (wpAny_bind (wpAny_setField_rec hz (by simp) fun H1 z1 b1 => wpAny_bind ?_)))))
    have z1 : ZAt H1 z TI TO .ellipsis f := z1
    simp only [List.zipIdx_cons, List.zipIdx_nil, List.forIn_cons, List.forIn_nil]
    refine wpAny_bind (wpAny_bind (wpAny_onRaise ?_))
    show wpAny _ _ (Builtin.SmallTypes.nextOf (.ref i1) >>= _) _ _ _
    refine wpAny_bind (RZ.nextOf_tuple_item (j1.extBut b1.extBut D.i1z) (t1.extBut b1.extBut D.l1z) hx fun H2 j1' b2 => wpAny_pure ?_)
    have to2 : IsPair H2 TO a b := b2.extBut _ _ D.TOi1 (b1.extBut _ _ D.TOz to)
    refine wpAny_bind (wpAny_seqItems to2 rfl (wpAny_bind (wpAny_updateSeq_pair to2 fun H3 to3 b3 => wpAny_bind (wpAny_letGo (wpAny_pure ?_)))))
    have to3 : IsPair H3 TO x b := to3
    refine wpAny_bind (wpAny_bind (wpAny_onRaise ?_))
    show wpAny _ _ (Builtin.SmallTypes.nextOf (.ref i2) >>= _) _ _ _
    refine wpAny_bind (RZ.nextOf_tuple_item (((j2.extBut b1.extBut D.i2z).extBut b2.extBut D.i12.symm).extBut b3.extBut D.TOi2.symm) (((t2.extBut b1.extBut D.l2z).extBut b2.extBut D.l2i1).extBut b3.extBut D.l2TO) hy fun H4 j2' b4 => wpAny_pure ?_)
    have to4 : IsPair H4 TO x b := b4.extBut _ _ D.TOi2 to3
    refine wpAny_bind (wpAny_seqItems to4 rfl (wpAny_bind (wpAny_updateSeq_pair to4 fun H5 to5 b5 => wpAny_bind (wpAny_letGo (wpAny_pure (wpAny_pure ?_))))))
    have to5 : IsPair H5 TO x y := to5
    refine wpAny_bind (wpAny_seqItems to5 rfl (wpAny_bind (wpAny_newTuple ?_)))
    have sz : H5.objs.size = s.heap.objs.size := by rw [b5.1, b4.1, b3.1, b2.1, b1.1]
    have z5 : ZAt H5 z TI TO .ellipsis f := b5.extBut _ _ D.TOz.symm (b4.extBut _ _ D.i2z.symm (b3.extBut _ _ D.TOz.symm (b2.extBut _ _ D.i1z.symm z1)))
    have off5 : Off z TO i1 i2 s.heap H5 := fun c o c1 c2 c3 c4 e => b5.extBut _ _ c2 (b4.extBut _ _ c4 (b3.extBut _ _ c2 (b2.extBut _ _ c3 (b1.extBut _ _ c1 e))))
    have k1 : H5.IsTupleIter i1 l1 (k + 1) := ((j1'.extBut b3.extBut D.TOi1.symm).extBut b4.extBut D.i12).extBut b5.extBut D.TOi1.symm
    have k2 : H5.IsTupleIter i2 l2 (k + 1) := j2'.extBut b5.extBut D.TOi2.symm
    have zl : z < H5.objs.size := Heap.lt_size z5
    have z6 : ZAt (H5.push { cls := .type "tuple", data := .seq #[x, y] }) z TI TO .ellipsis f := Heap.get?_push_of_some _ z5
    show wpAny _ _ (Builtin.SmallTypes.ownedTupleHandOut (.ref z) (.ref H5.objs.size) >>= _) _ _ _
    unfold Builtin.SmallTypes.ownedTupleHandOut
    refine wpAny_bind (wpAny_bind (wpAny_setField_rec z6 (by simp) fun H7 z7 b7 => ?_))
    have z7 : ZAt H7 z TI TO (rawInt H5.objs.size) f := z7
    refine wpAny_setField_rec z7 (by simp) fun H8 z8 b8 => wpAny_pure ⟨_, rfl, ?_⟩
    have z8 : ZAt H8 z TI TO (rawInt H5.objs.size) false := z8
    have up : ∀ c o, c ≠ z → H5.get? c = some o → H8.get? c = some o := fun c o c1 e => b8.extBut _ _ c1 (b7.extBut _ _ c1 (Heap.get?_push_of_some _ e))
    have new : IsPair H8 H5.objs.size x y := b8.extBut _ _ (Nat.ne_of_gt zl) (b7.extBut _ _ (Nat.ne_of_gt zl) (Heap.get?_push_size _ rfl))
    have off8 : Off z TO i1 i2 s.heap H8 := fun c o c1 c2 c3 c4 e => up c o c1 (off5 c o c1 c2 c3 c4 e)
    show Q (.ref H5.objs.size) _
    rw [sz] at new z8 ⊢
    obtain ⟨o1, e1, q1⟩ := t1
    obtain ⟨o2, e2, q2⟩ := t2
    exact hQ H8 _ _ z8 (.inr ⟨_, rfl⟩) ⟨off8 _ _ D.TIz D.TITO D.TIi1 D.TIi2 ti, ⟨x, y, up _ _ D.TOz to5⟩, k1.at fun o e => up _ o D.i1z e, k2.at fun o e => up _ o D.i2z e, ⟨o1, off8 _ _ D.l1z D.l1TO D.l1i1 D.l1i2 e1, q1⟩, ⟨o2, off8 _ _ D.l2z D.l2TO D.l2i1 D.l2i2 e2, q2⟩⟩ new off8
  · -- a new pair
    simp only [Bool.false_eq_true, if_false]
    refine wpAny_bind ?_
    rw [← Array.forIn_toList]
    simp only [List.forIn_cons, List.forIn_nil]
    refine wpAny_bind (wpAny_bind (wpAny_holding ?_))
    show wpAny _ _ (Builtin.SmallTypes.nextOf (.ref i1) >>= _) _ _ _
    refine wpAny_bind (RZ.nextOf_tuple_item (j1.extBut b1.extBut D.i1z) (t1.extBut b1.extBut D.l1z) hx fun H2 j1' b2 => wpAny_pure (wpAny_pure ?_))
    refine wpAny_bind (wpAny_bind (wpAny_holding ?_))
    show wpAny _ _ (Builtin.SmallTypes.nextOf (.ref i2) >>= _) _ _ _
    refine wpAny_bind (RZ.nextOf_tuple_item ((j2.extBut b1.extBut D.i2z).extBut b2.extBut D.i12.symm) ((t2.extBut b1.extBut D.l2z).extBut b2.extBut D.l2i1) hy fun H3 j2' b3 => wpAny_pure (wpAny_pure (wpAny_pure ?_)))
    show wpAny _ _ (newTuple [x, y] >>= _) _ _ _
    refine wpAny_bind (wpAny_newTuple (wpAny_pure ⟨_, rfl, ?_⟩))
    have sz : H3.objs.size = s.heap.objs.size := by rw [b3.1, b2.1, b1.1]
    have z3 : ZAt H3 z TI TO f0 true := b3.extBut _ _ D.i2z.symm (b2.extBut _ _ D.i1z.symm z1)
    have off3 : Off z TO i1 i2 s.heap (H3.push { cls := .type "tuple", data := .seq #[x, y] }) := fun c o c1 c2 c3 c4 e => Heap.get?_push_of_some _ (b3.extBut _ _ c4 (b2.extBut _ _ c3 (b1.extBut _ _ c1 e)))
    have k1 : H3.IsTupleIter i1 l1 (k + 1) := j1'.extBut b3.extBut D.i12
    have toN : IsPair (H3.push { cls := .type "tuple", data := .seq #[x, y] }) TO a b := Heap.get?_push_of_some _ (b3.extBut _ _ D.TOi2 (b2.extBut _ _ D.TOi1 (b1.extBut _ _ D.TOz to)))
    have new : IsPair (H3.push { cls := .type "tuple", data := .seq #[x, y] }) H3.objs.size x y := Heap.get?_push_size _ rfl
    show Q (.ref H3.objs.size) _
    rw [sz] at new ⊢
    obtain ⟨o1, e1, q1⟩ := t1
    obtain ⟨o2, e2, q2⟩ := t2
    exact hQ _ f0 true (Heap.get?_push_of_some _ z3) h0 ⟨off3 _ _ D.TIz D.TITO D.TIi1 D.TIi2 ti, ⟨a, b, toN⟩, k1.at fun o e => Heap.get?_push_of_some _ e, j2'.at fun o e => Heap.get?_push_of_some _ e, ⟨o1, off3 _ _ D.l1z D.l1TO D.l1i1 D.l1i2 e1, q1⟩, ⟨o2, off3 _ _ D.l2z D.l2TO D.l2i1 D.l2i2 e2, q2⟩⟩ new off3
theorem zend {z TI TO i1 i2 l1 l2 : Addr} {k : Nat} {xs ys : Array Value} {f0 : Value} {f : Bool} {Q : Fin → Shared → Prop} (hh : A.handled = none) (D : ZipApart z TI TO i1 i2 l1 l2) (hz : ZAt s.heap z TI TO f0 f) (h0 : ZFree f0) (P : ZPt s.heap TI TO i1 i2 l1 l2 k xs ys) (hx : xs[k]? = none)
    (hE : ∀ h' e, Off z TO i1 i2 s.heap h' → (∃ o, h'.get? e = some o ∧ o.cls = .type "StopIteration") → E (.ref e) { s with heap := h' }) :
    wpAny (model prog w) A (Builtin.«zip.__next__» ⟨[.ref z], []⟩) Q E s := by
  obtain ⟨ti, ⟨a, b, to⟩, j1, j2, t1, t2⟩ := P
  show wpAny _ _ (field (.ref z) 2 >>= _) _ _ _
  refine wpAny_bind (wpAny_field hz rfl (x := .bool false) rfl ?_)
  refine wpAny_bind (wpAny_field hz rfl (x := .ref TI) rfl (wpAny_bind (wpAny_seqItems ti rfl ?_)))
  show wpAny _ _ (Builtin.SmallTypes.ownedTupleIsFree (.ref z) >>= _) _ _ _
  refine wpAny_bind (zown hz h0 ?_ fun H1 z1 b1 => ?_)
  · simp only [if_true]
    refine wpAny_bind (wpAny_rule (wpAny_bind (wpAny_field hz rfl (x := .ref TO) rfl (wpAny_bind (wpAny_setField_rec hz (by simp) fun H1 z1 b1 => wpAny_bind ?_)))))
    have z1 : ZAt H1 z TI TO .ellipsis f := z1
    simp only [List.zipIdx_cons, List.zipIdx_nil, List.forIn_cons, List.forIn_nil]
    refine wpAny_bind (wpAny_bind (wpAny_onRaise ?_))
    show wpAny _ _ (Builtin.SmallTypes.nextOf (.ref i1) >>= _) _ _ _
    refine wpAny_bind (RZ.nextOf_tuple_end hh (j1.extBut b1.extBut D.i1z) (t1.extBut b1.extBut D.l1z) hx fun H2 e b2 he => ?_)
    obtain ⟨oe, e1, e2⟩ := he
    have z2 : ZAt H2 z TI TO .ellipsis f := b2 _ _ D.i1z.symm z1
    have ne : e ≠ z := fun q => by subst q; rw [z2] at e1; cases e1; simp at e2
    exact wpAny_setField_rec z2 (by simp) fun H3 _ b3 => hE H3 e (fun c o c1 _ c3 _ q => b3.extBut _ _ c1 (b2 _ _ c3 (b1.extBut _ _ c1 q))) ⟨oe, b3.extBut _ _ ne e1, e2⟩
  · simp only [Bool.false_eq_true, if_false]
    refine wpAny_bind ?_
    rw [← Array.forIn_toList]
    simp only [List.forIn_cons, List.forIn_nil]
    refine wpAny_bind (wpAny_bind (wpAny_holding ?_))
    show wpAny _ _ (Builtin.SmallTypes.nextOf (.ref i1) >>= _) _ _ _
    exact wpAny_bind (RZ.nextOf_tuple_end hh (j1.extBut b1.extBut D.i1z) (t1.extBut b1.extBut D.l1z) hx fun H2 e b2 he => hE H2 e (fun c o c1 _ c3 _ q => b2 _ _ c3 (b1.extBut _ _ c1 q)) he)
theorem zpy_next {z TI TO i1 i2 l1 l2 : Addr} {k : Nat} {xs ys : Array Value} {x y f0 : Value} {f : Bool} {Q : Option Value → Shared → Prop} (D : ZipApart z TI TO i1 i2 l1 l2) (hz : ZAt s.heap z TI TO f0 f) (h0 : ZFree f0) (P : ZPt s.heap TI TO i1 i2 l1 l2 k xs ys) (hx : xs[k]? = some x) (hy : ys[k]? = some y)
    (hQ : ∀ h' g0 g, ZAt h' z TI TO g0 g → ZFree g0 → ZPt h' TI TO i1 i2 l1 l2 (k + 1) xs ys → IsPair h' s.heap.objs.size x y → Off z TO i1 i2 s.heap h' → Q (some (.ref s.heap.objs.size)) { s with heap := h' }) :
    wpAny (model prog w) A (pyNext (.ref z)) Q E s := by
  have ty : s.TypeIs (.ref z) "zip" := ⟨_, hz, rfl⟩
  unfold pyNext
  exact wpAny_bind (wpAny_attempt (wpAny_callSpecial?_slot (name := Str.ofString "__next__") ty F.slot_zip_next (wpAny_call_entry F.slot_zip_next ty F.entry_zip_next (znext D hz h0 P hx hy fun h' g0 g a1 a2 a3 a4 a5 => wpAny_pure (hQ h' g0 g a1 a2 a3 a4 a5)) (F.args_zip_next_1 _))))
theorem zpy_end {z TI TO i1 i2 l1 l2 : Addr} {k : Nat} {xs ys : Array Value} {f0 : Value} {f : Bool} {Q : Option Value → Shared → Prop} (hh : A.handled = none) (D : ZipApart z TI TO i1 i2 l1 l2) (hz : ZAt s.heap z TI TO f0 f) (h0 : ZFree f0) (P : ZPt s.heap TI TO i1 i2 l1 l2 k xs ys) (hx : xs[k]? = none)
    (hQ : ∀ h', Off z TO i1 i2 s.heap h' → Q none { s with heap := h' }) : wpAny (model prog w) A (pyNext (.ref z)) Q E s := by
  have ty : s.TypeIs (.ref z) "zip" := ⟨_, hz, rfl⟩
  unfold pyNext
  refine wpAny_bind (wpAny_attempt (wpAny_callSpecial?_slot (name := Str.ofString "__next__") ty F.slot_zip_next (wpAny_call_entry F.slot_zip_next ty F.entry_zip_next (zend hh D hz h0 P hx fun h' e hk he => ?_) (F.args_zip_next_1 _))))
  obtain ⟨o, ho, hc⟩ := he
  exact wpAny_bind (wpAny_isInstance (T := "StopIteration") (b := true) ⟨o, ho, hc⟩ isSubtype_stop (wpAny_pure (hQ _ hk)))
end
end TD
namespace TD
open PySem PySem.Spec PyProof.Rows L2
/-- the tuples at a and b, the items in new pairs, the first ending first -/
def ItzN (K : PySem.W.Frag) (a b : Addr) : It :=
  ⟨fun i H => ∃ (xs ys : List V) (x y : V), SqT K H a xs ∧ SqT K H b ys ∧ xs[i]? = some x ∧ ys[i]? = some y,
    fun i H v H' => ∃ T x y, v = .ref T ∧ H T = none ∧ H' = upd H T (.tup [x, y]) ∧ (∀ xs, SqT K H a xs → xs[i]? = some x) ∧ ∀ ys, SqT K H b ys → ys[i]? = some y,
    fun i H => ∃ xs ys : List V, SqT K H a xs ∧ SqT K H b ys ∧ xs.length ≤ i⟩
theorem turn_zipN {P : Program} {w : World} {K : PySem.W.Frag} {x : Str} {tpos : Pos} {a b z TI TO i1 i2 : Addr} (D : ZipApart z TI TO i1 i2 a b) :
    Turn P w K (.Name x tpos) (ItzN K a b) [z, TI, TO, i1, i2] z (fun i h => (∃ f0 f, ZAt h z TI TO f0 f ∧ ZFree f0) ∧ IsPair h TI (.ref i1) (.ref i2) ∧ (∃ x y, IsPair h TO x y) ∧ h.IsTupleIter i1 a i ∧ h.IsTupleIter i2 b i) where
  mem := List.mem_cons_self
  obj := fun i h st c hc => by
    obtain ⟨⟨f0, f, hz, _⟩, ti, ⟨u, v, to⟩, ⟨o1, e1, _, d1⟩, ⟨o2, e2, _, d2⟩⟩ := st
    simp only [List.mem_cons, List.not_mem_nil, or_false] at hc
    rcases hc with q | q | q | q | q <;> subst q
    · exact ⟨_, hz, fun v q => nomatch q⟩
    · exact ⟨_, ti, fun v q => nomatch q⟩
    · exact ⟨_, to, fun v q => nomatch q⟩
    · exact ⟨o1, e1, fun v q => by rw [d1] at q; cases q⟩
    · exact ⟨o2, e2, fun v q => by rw [d2] at q; cases q⟩
  keep := fun i h h' st k => by
    obtain ⟨⟨f0, f, hz, q⟩, ti, ⟨u, v, to⟩, j1, j2⟩ := st
    exact ⟨⟨f0, f, k z (by simp) _ hz, q⟩, k TI (by simp) _ ti, ⟨u, v, k TO (by simp) _ to⟩, j1.at fun o q => k i1 (by simp) o q, j2.at fun o q => k i2 (by simp) o q⟩
  item := by
    intro X hP hw hK hc i pins s σ H E I hf st hg
    subst hP hw hK
    obtain ⟨⟨f0, f, hz, fr⟩, ti, to, j1, j2⟩ := st
    obtain ⟨xs, ys, x, y, qx, qy, ex, ey⟩ := hg
    obtain ⟨is1, v1, t1, _⟩ := I.tuple qx
    obtain ⟨is2, v2, t2, _⟩ := I.tuple qy
    obtain ⟨u1, g1, r1⟩ := v1.get ex
    obtain ⟨u2, g2, r2⟩ := v2.get ey
    refine zpy_next D hz fr ⟨ti, to, j1, j2, t1, t2⟩ (x := u1) (y := u2) (by simpa using g1) (by simpa using g2) fun h' f1 f' hz' fr' P' new off => ⟨_, rfl, wpAny_pure ?_⟩
    have ok : ObjOk X.prog X.w (upd H s.heap.objs.size (.tup [x, y])) h' s.heap.objs.size (.tup [x, y]) :=
      ⟨Nat.le_trans (m := 100) (Nat.le_of_ble_eq_true rfl) (by decide), [u1, u2], .cons r1 (.cons r2 .nil), ⟨_, new, rfl, _, rfl⟩⟩
    have I1 : Inv X pins σ (upd H s.heap.objs.size (.tup [x, y])) { s with heap := h' } :=
      I.turnedNew (t' := s.toks) (ch := [z, TI, TO, i1, i2]) (fun c o hb q => off c o (fun w => hb (by simp [w])) (fun w => hb (by simp [w])) (fun w => hb (by simp [w])) (fun w => hb (by simp [w])) q) hf (Nat.le_refl _) ok
    refine ⟨.ref s.heap.objs.size, _, I1, rfl, ⟨_, x, y, rfl, I.hok.fresh (Nat.le_refl _), rfl, fun l hl => ?_, fun l hl => ?_⟩, ⟨⟨f1, f', hz', fr'⟩, P'.ti, P'.to_, P'.j1, P'.j2⟩, fun c hcm => ?_⟩
    · rw [I.tuple_inj hl qx]; exact ex
    · rw [I.tuple_inj hl qy]; exact ey
    · have lt : c < s.heap.objs.size := by
        simp only [List.mem_cons, List.not_mem_nil, or_false] at hcm
        obtain ⟨_, _, to⟩ := to
        obtain ⟨_, k1, _⟩ := j1
        obtain ⟨_, k2, _⟩ := j2
        rcases hcm with q | q | q | q | q <;> subst q
        · exact Heap.lt_size hz
        · exact Heap.lt_size ti
        · exact Heap.lt_size to
        · exact Heap.lt_size k1
        · exact Heap.lt_size k2
      rw [upd_ne (Nat.ne_of_lt lt)]
      exact (hf c hcm).1
  done := by
    intro X hP hw hK hc i pins s σ H E I hf st hg
    subst hP hw hK
    obtain ⟨⟨f0, f, hz, fr⟩, ti, to, j1, j2⟩ := st
    obtain ⟨xs, ys, qx, qy, le⟩ := hg
    obtain ⟨is1, v1, t1, _⟩ := I.tuple qx
    obtain ⟨is2, v2, t2, _⟩ := I.tuple qy
    have l1 := v1.length
    exact zpy_end (I.ok.hd hc) D hz fr ⟨ti, to, j1, j2, t1, t2⟩ (by simp; omega) fun h' off => ⟨rfl, I.turnedL (t' := s.toks) (ch := [z, TI, TO, i1, i2]) (fun c o hb q =>
      off c o (fun w => hb (by simp [w])) (fun w => hb (by simp [w])) (fun w => hb (by simp [w])) (fun w => hb (by simp [w])) q) hf⟩
  self := fun A i s Q E st h => by
    obtain ⟨⟨f0, f, hz, _⟩, _⟩ := st
    have ty : s.TypeIs (.ref z) "zip" := ⟨_, hz, rfl⟩
    exact wpAny_pyIter_slot ty F.slot_zip_iter (wpAny_call_entry F.slot_zip_iter ty F.entry_zip_iter (show wpAny _ _ (ret (.ref z)) _ _ s from wpAny_pure ⟨_, rfl, "zip", _, ty, F.slot_zip_next.lookup, h⟩) (F.args_zip_iter_1 _))
theorem pi_zipN {X : Cx} {e e2 : Expr} {ta : TA} {p pos tpos : Pos} {x : Str} (hg : Gl X "zip") (hm : X.mg "zip" = none) (ha : PA X [e, e2] ta)
    (hs : starEach [e, e2] X.env = (false, eval e X.env) :: starEach [e2] X.env := by rfl) (hpl : (backTo pos (starEach [e2] X.env)).any (·.1) = false := by rfl) :
    PI X (.Name x tpos) (.Call (.Name "zip" p) [e, e2] [] pos) (fun σ H R => ta σ H fun vs H1 => ∃ a b xs ys, vs = [.ref a, .ref b] ∧ SqT X.K H1 a xs ∧ SqT X.K H1 b ys ∧ R (ItzN X.K a b) H1) := by
  refine ⟨fun pins s σ H R I h => Call_ (ld_blt I hg hm PyProof.Rows.boot_zip (PyProof.Rows.callWith_type1 (thn (ha.run pos pins s σ H _ I h) fun us s1 ⟨vs, H1, I1, r1, q1⟩ => ?_) hs hpl))⟩
  obtain ⟨a, b, xs, ys, rfl, qx, qy, q⟩ := q1
  obtain ⟨u1, u2, rfl, ra, rb⟩ := vals2 r1
  cases ra
  cases rb
  obtain ⟨is1, v1, t1, _⟩ := I1.tuple qx
  obtain ⟨is2, v2, t2, _⟩ := I1.tuple qy
  obtain ⟨o1, k1, _⟩ := id t1
  obtain ⟨o2, k2, _⟩ := id t2
  have le : ∀ c, c ∈ [s1.heap.objs.size + 4, s1.heap.objs.size + 2, s1.heap.objs.size + 3, s1.heap.objs.size, s1.heap.objs.size + 1] → s1.heap.objs.size ≤ c := fun c hc => by
    simp only [List.mem_cons, List.not_mem_nil, or_false] at hc
    rcases hc with w | w | w | w | w <;> subst w
    · exact Nat.le_add_right _ _
    · exact Nat.le_add_right _ _
    · exact Nat.le_add_right _ _
    · exact Nat.le_refl _
    · exact Nat.le_add_right _ _
  refine RZ.call_zipT (show s1.heap.IsTuple a is1.toArray from t1) (show s1.heap.IsTuple b is2.toArray from t2) fun h' hz ti to j1 j2 sz hk => ?_
  refine wpAny_pyIter_zip hz ⟨s1.heap.objs.size + 4, _, _, _, H1, rfl, I1.kept (t' := s1.toks) hk, turn_zipN (PySem.W.ktu_apart s1.heap.objs.size a b (Heap.lt_size k1) (Heap.lt_size k2)), ⟨⟨.none, false, hz, .inl rfl⟩, ti, ⟨_, _, to⟩, j1, j2⟩, fun c hc => I1.fpOk (le c hc) (I1.hok.fresh (le c hc)), q⟩
theorem walks_zipN {K : PySem.W.Frag} {G1 : Hp} {a b : Addr} {xs ys : List V} {ds es : List PyData} (h : G1 a = some (.tup xs)) (r : RpAll G1 xs ds) (h' : G1 b = some (.tup ys)) (r' : RpAll G1 ys es) (hl : ds.length ≤ es.length) : Walks G1 (ItzN K a b) (dZip ds es) where
  go := fun G H i d g1 g2 e => by
    obtain ⟨x, y, ex, ey, rfl⟩ := dZip_get e
    obtain ⟨v, h1, h2⟩ := r.get ex
    obtain ⟨w, h3, h4⟩ := r'.get ey
    have q1 : SqT K H a xs := SqT.of (g2 _ _ (g1 _ _ h))
    have q2 : SqT K H b ys := SqT.of (g2 _ _ (g1 _ _ h'))
    refine ⟨⟨xs, ys, v, w, q1, q2, h1, h3⟩, fun x H' y => ?_⟩
    obtain ⟨T, x1, x2, y0, y1, y2, y3, y4⟩ := y
    subst y0 y2
    have e1 := y3 xs q1
    have e2 := y4 ys q2
    rw [h1] at e1; cases e1
    rw [h3] at e2; cases e2
    have g := Gr.new (.tup [v, w]) g2 y1
    exact ⟨_, g, .tup upd_same (.cons (h2.mono (g1.trans g.g)) (.cons (h4.mono (g1.trans g.g)) .nil))⟩
  stop := fun G H g1 g2 => ⟨xs, ys, SqT.of (g2 _ _ (g1 _ _ h)), SqT.of (g2 _ _ (g1 _ _ h')), by
    rw [r.length]; unfold dZip; rw [List.length_zipWith]; omega⟩
section
variable {X : Cx} {C : Addr} {env : DEnv} {a b : Expr} {ds es' : List PyData} {p pos tpos : Pos} {x : Str}
theorem di_zipN (T : Tp X.mg) (h : DE X C env a (.tuple ds)) (h' : DE X C env b (.tuple es')) (hl : ds.length ≤ es'.length) (hg : Gl X "zip" := by rfl) (hs : starEach [a, b] X.env = (false, eval a X.env) :: starEach [b] X.env := by rfl) (hs2 : starEach [b] X.env = (false, eval b X.env) :: starEach [] X.env := by rfl)
    (hpl : (backTo pos (starEach [b] X.env)).any (·.1) = false := by rfl) : DI X C env (.Name x tpos) (.Call (.Name "zip" p) [a, b] [] pos) (dZip ds es') := .mk fun S R q =>
  wI_of (pi_zipN hg T.zip (pa_cons (wE_pe a) (pa_cons (wE_pe b) pa_nil hs2) hs) hs hpl) (h.run S _ fun v G1 H1 g1 r1 => h'.run (S.grow g1) _ fun w G2 H2 g2 r2 => by
    cases r1 with
    | tup e1 r1 =>
      cases r2 with
      | tup e2 r2 =>
        have e3 := g2.g _ _ e1
        exact ⟨_, _, _, _, rfl, SqT.of (g2.i _ _ e3), SqT.of (g2.i _ _ e2), q _ G2 H2 (g1.trans g2) (walks_zipN e3 (r1.mono g2.g) e2 r2 hl)⟩)
end
end TD
namespace TD
open PySem L2
structure Wb (K : PySem.W.Frag) (C : Addr) : Prop where
  cl : Cls K C
  nM : NoAttr K C "many"
  nR : NoAttr K C "rows"
section
variable {X : Cx} {C : Addr} {env : DEnv} {a : Expr} {d : PyData} {p p2 pos : Pos}
theorem boot_int_ : bootBuiltins "int" = some (.type "int") := by decide +kernel
theorem boot_bool_ : bootBuiltins "bool" = some (.type "bool") := by decide +kernel
theorem boot_tuple_ : bootBuiltins "tuple" = some (.type "tuple") := by decide +kernel
theorem boot_str_ : bootBuiltins "str" = some (.type "str") := by decide +kernel
end
end TD
namespace TD
open PySem L2 TS
/-! data that is laid, data that is the same -/
structure Lay (k : Nat) (d : PyData) : Prop where
  c : d.canLay0 = true
  d : d.depth ≤ k
theorem layAll {α : Type} {enc : α → PyData} {k : Nat} (h : ∀ a, Lay k (enc a)) : ∀ l : List α, PyData.canLayAll0 (l.map enc) = true ∧ PyData.depthAll (l.map enc) ≤ k
  | [] => by simp [PyData.canLayAll0, PyData.depthAll]
  | a :: l => by
    obtain ⟨h1, h2⟩ := layAll h l
    have h3 := (h a).c
    have h4 := (h a).d
    simp only [List.map_cons, PyData.canLayAll0, PyData.depthAll, h1, h3]
    exact ⟨rfl, by omega⟩
theorem lay_int (i : Int) : Lay 0 (.int i) := ⟨by simp [PyData.canLay0], by simp [PyData.depth]⟩
theorem lay_non : Lay 0 .none := ⟨by simp [PyData.canLay0], by simp [PyData.depth]⟩
theorem lay_tup {α : Type} {enc : α → PyData} {k : Nat} (h : ∀ a, Lay k (enc a)) (l : List α) : Lay (k + 1) (.tuple (l.map enc)) := by
  obtain ⟨h1, h2⟩ := layAll h l
  exact ⟨by simp only [PyData.canLay0]; exact h1, by simp only [PyData.depth]; omega⟩
theorem lay_lst {α : Type} {enc : α → PyData} {k : Nat} (h : ∀ a, Lay k (enc a)) (l : List α) : Lay (k + 1) (.list (l.map enc)) := by
  obtain ⟨h1, h2⟩ := layAll h l
  exact ⟨by simp only [PyData.canLay0]; exact h1, by simp only [PyData.depth]; omega⟩
theorem Lay.sh {k : Nat} {d : PyData} (h : Lay k d) (hk : k ≤ 64 := by decide) : SeqAt.shaped d = true := by
  show (d.canLay0 && decide (d.depth ≤ 64)) = true
  rw [Bool.and_eq_true]
  exact ⟨h.c, decide_eq_true (Nat.le_trans h.d hk)⟩
mutual
/-- no truth value within -/
def clean : PyData → Bool
  | .bool _ => false
  | .dict _ => false
  | .list l => cleanAll l
  | .tuple l => cleanAll l
  | _ => true
def cleanAll : List PyData → Bool
  | [] => true
  | d :: r => clean d && cleanAll r
end
mutual
theorem eqv_iff : ∀ (d e : PyData), clean d = true → clean e = true → (PyData.eqv d e = true ↔ d = e)
  | .none, e, _, _ => by cases e <;> simp [PyData.eqv]
  | .bool _, _, h, _ => by simp [clean] at h
  | .int i, e, _, h => by cases e <;> simp_all [PyData.eqv, clean]
  | .str i, e, _, h => by cases e <;> simp_all [PyData.eqv, clean]
  | .dict _, _, h, _ => by simp [clean] at h
  | .list l, e, h, h' => by
    cases e with
    | list m => simp only [PyData.eqv, PyData.list.injEq]; exact eqvAll_iff l m (by simpa [clean] using h) (by simpa [clean] using h')
    | _ => simp [PyData.eqv]
  | .tuple l, e, h, h' => by
    cases e with
    | tuple m => simp only [PyData.eqv, PyData.tuple.injEq]; exact eqvAll_iff l m (by simpa [clean] using h) (by simpa [clean] using h')
    | _ => simp [PyData.eqv]
theorem eqvAll_iff : ∀ (l m : List PyData), cleanAll l = true → cleanAll m = true → (PyData.eqvAll l m = true ↔ l = m)
  | [], [], _, _ => by simp [PyData.eqvAll]
  | [], _ :: _, _, _ => by simp [PyData.eqvAll]
  | _ :: _, [], _, _ => by simp [PyData.eqvAll]
  | d :: l, e :: m, h, h' => by
    simp only [cleanAll, Bool.and_eq_true] at h h'
    have h1 := eqv_iff d e h.1 h'.1
    have h2 := eqvAll_iff l m h.2 h'.2
    simp only [PyData.eqvAll, Bool.and_eq_true, List.cons.injEq, h1, h2]
end
theorem clean_map {α : Type} {enc : α → PyData} (h : ∀ a, clean (enc a) = true) : ∀ l : List α, cleanAll (l.map enc) = true
  | [] => rfl
  | a :: l => by simp only [List.map_cons, cleanAll, h a, clean_map h l]; rfl
theorem clean_int (i : Int) : clean (.int i) = true := rfl
theorem eqv_dec {α : Type} [DecidableEq α] {enc : α → PyData} (hc : ∀ a, clean (enc a) = true) (hi : ∀ a b, enc a = enc b → a = b) (a b : α) : PyData.eqv (enc a) (enc b) = decide (a = b) := by
  have h := eqv_iff _ _ (hc a) (hc b)
  by_cases e : a = b
  · subst e; rw [decide_eq_true rfl]; exact h.mpr rfl
  · rw [decide_eq_false e]
    cases q : PyData.eqv (enc a) (enc b)
    · rfl
    · exact absurd (hi _ _ (h.mp q)) e
theorem map_inj {α β : Type} {f : α → β} (h : ∀ a b, f a = f b → a = b) : ∀ {l m : List α}, l.map f = m.map f → l = m
  | [], [], _ => rfl
  | [], _ :: _, e => by cases e
  | _ :: _, [], e => by cases e
  | a :: l, b :: m, e => by
    rw [List.map_cons, List.map_cons, List.cons.injEq] at e
    rw [h _ _ e.1, map_inj h e.2]
/-! the codes that stand in the program -/
def dInts (l : List Int) : PyData := .tuple (l.map .int)
def dIntsL (l : List Int) : PyData := .list (l.map .int)
def dOpt (o : Option (List Int)) : PyData := match o with
  | some l => dInts l
  | none => .none
def dNats (l : List Nat) : PyData := .tuple (l.map dI)
def dSgs (l : List (List Int)) : PyData := .list (l.map dInts)
theorem int_inj (a b : Int) (h : PyData.int a = PyData.int b) : a = b := by cases h; rfl
theorem dI_inj (a b : Nat) (h : dI a = dI b) : a = b := by unfold dI at h; cases h; rfl
theorem dP_inj (a b : Nat × Nat) (h : dP a = dP b) : a = b := by
  unfold dP at h
  have h : [dI a.1, dI a.2] = [dI b.1, dI b.2] := PyData.tuple.inj h
  rw [List.cons.injEq, List.cons.injEq] at h
  exact Prod.ext (dI_inj _ _ h.1) (dI_inj _ _ h.2.1)
theorem dInts_inj (a b : List Int) (h : dInts a = dInts b) : a = b := map_inj int_inj (PyData.tuple.inj h)
theorem dNats_inj (a b : List Nat) (h : dNats a = dNats b) : a = b := map_inj dI_inj (PyData.tuple.inj h)
theorem lay_dI (n : Nat) : Lay 0 (dI n) := lay_int _
theorem lay_dInts (l : List Int) : Lay 1 (dInts l) := lay_tup lay_int l
theorem lay_dIntsL (l : List Int) : Lay 1 (dIntsL l) := lay_lst lay_int l
theorem lay_dNats (l : List Nat) : Lay 1 (dNats l) := lay_tup lay_dI l
theorem lay_dP (p : Nat × Nat) : Lay 1 (dP p) := lay_tup lay_dI [p.1, p.2]
theorem lay_dPs (l : List (Nat × Nat)) : Lay 2 (.list (l.map dP)) := lay_lst lay_dP l
theorem lay_dRows (l : List (Nat × Nat)) : Lay 2 (dRows l) := lay_tup lay_dP l
theorem lay_dSgs (l : List (List Int)) : Lay 2 (dSgs l) := lay_lst lay_dInts l
theorem clean_dI (n : Nat) : clean (dI n) = true := rfl
theorem clean_dInts (l : List Int) : clean (dInts l) = true := clean_map clean_int l
theorem clean_dNats (l : List Nat) : clean (dNats l) = true := clean_map clean_dI l
theorem clean_dP (p : Nat × Nat) : clean (dP p) = true := rfl
theorem eqv_dInts (a b : List Int) : PyData.eqv (dInts a) (dInts b) = decide (a = b) := eqv_dec clean_dInts dInts_inj a b
theorem eqv_dIntsL (a b : List Int) : PyData.eqv (dIntsL a) (dIntsL b) = decide (a = b) := eqv_dec (enc := dIntsL) (fun l => clean_map clean_int l) (fun a b h => map_inj int_inj (PyData.list.inj h)) a b
theorem eqv_dRows (a b : List (Nat × Nat)) : PyData.eqv (dRows a) (dRows b) = decide (a = b) := eqv_dec (enc := dRows) (fun l => clean_map clean_dP l) (fun a b h => map_inj dP_inj (PyData.tuple.inj h)) a b
theorem eqv_dP (a b : Nat × Nat) : PyData.eqv (dP a) (dP b) = decide (a = b) := eqv_dec clean_dP dP_inj a b
theorem any_eqv {α : Type} [DecidableEq α] {enc : α → PyData} (hc : ∀ a, clean (enc a) = true) (hi : ∀ a b, enc a = enc b → a = b) (l : List α) (x : α) : ((l.map enc).any fun z => PyData.eqv z (enc x)) = decide (x ∈ l) := by
  rw [List.any_map]
  by_cases h : x ∈ l
  · rw [decide_eq_true h, List.any_eq_true]
    exact ⟨x, h, by show PyData.eqv (enc x) (enc x) = true; rw [eqv_dec hc hi]; simp⟩
  · rw [decide_eq_false h, List.any_eq_false]
    intro y hy
    show ¬ PyData.eqv (enc y) (enc x) = true
    rw [eqv_dec hc hi]
    simp only [decide_eq_true_eq]
    rintro rfl; exact h hy
/-! numbers read off a row -/
theorem ints_get {l : List Int} {i : Nat} (h : i < l.length) : (l.map PyData.int)[i]? = some (.int (gt l i)) := by
  rw [List.getElem?_map, List.getElem?_eq_getElem h, gt_in h]; rfl
theorem atI_of {ds : List PyData} {i : Nat} {d : PyData} (h : ds[i]? = some d) : atI ds (i : Int) = some d := atI_nat h
theorem atI_ints {l : List Int} {i : Nat} (h : i < l.length) : atI (l.map PyData.int) (i : Int) = some (.int (gt l i)) := atI_nat (ints_get h)
theorem set_ints (l : List Int) (i : Nat) (x : Int) : (l.map PyData.int).set i (.int x) = (l.set i x).map .int := List.map_set.symm
theorem take_map_succ {α β : Type} {l : List α} {g : α → β} {i : Nat} {a : α} (h : l[i]? = some a) : (l.take (i + 1)).map g = (l.take i).map g ++ [g a] := by
  rw [List.take_add_one, h, List.map_append]; rfl
theorem map_get {α : Type} {enc : α → PyData} {l : List α} {i : Nat} {d : PyData} (h : (l.map enc)[i]? = some d) : ∃ a, l[i]? = some a ∧ d = enc a := by
  rw [List.getElem?_map] at h
  cases e : l[i]? with
  | none => rw [e] at h; cases h
  | some a => rw [e] at h; cases h; exact ⟨a, rfl, rfl⟩
end TD
namespace TD
open PySem L2 TS
section
variable {X : Cx} {C : Addr} {N ps : List Str} {sc : Scope} {env : DEnv} {elt tg iter e c : Expr} {scope : Scope} {own : List (Str × Nat)} {p pos cpos : Pos} {α : Type} {d d' : PyData} {ds ds' : List PyData}
theorem DE.cast (h : DE X C env e d) (q : d = d') : DE X C env e d' := q ▸ h
theorem DN.cast (h : DN X C env e ds) (q : ds = ds') : DN X C env e ds' := q ▸ h
theorem DL.cast (h : DL X C env e ds) (q : ds = ds') : DL X C env e ds' := q ▸ h
theorem DT.cast {k k' : Bool} (h : DT X C env e k) (q : k = k') : DT X C env e k' := q ▸ h
theorem DI.cast (h : DI X C env tg e ds) (q : ds = ds') : DI X C env tg e ds' := q ▸ h
theorem dn_map (own : List (Str × Nat)) (enc : α → PyData) (as : List α) (out : α → PyData) (hc : X.calm = true) (FS : FnScope N ps sc) (src : DI X C env tg iter (as.map enc)) (hlen : as.length ≤ 10000000)
    (step : ∀ a ∈ as, ∃ env2 vs, (∀ v ∈ vs, v ∈ own.map (·.2)) ∧ env2.length = env.length ∧ ∀ (s : Shared) (H : Hp) (Cc : Addr) (cl : List (Str × Addr)) (fp : List Addr),
      DG (blkY X scope s H Cc cl fp) C tg (enc a) (wipeD env (own.map (·.2))) env2 vs ∧ DE (blkY X scope s H Cc cl fp) C env2 elt (out a))
    (hs : ∀ x, foldedSetIterable iter X.env x = pure x := by intro _; rfl) (ok : blkC N sc scope own = true := by decide +kernel) (e1 : X.N = N := by rfl) (e2 : X.env.scope = sc := by rfl) : DN X C env (.ListComp elt [⟨tg, iter, [], 0⟩] scope pos) (as.map out) := by
  have h := dn_lc (X := X) (C := C) (env := env) (elt := elt) (tg := tg) (iter := iter) (ifs := []) (scope := scope) (own := own) (pos := pos) enc as (fun _ => true) out hc FS src hlen (fun a ha => by
    obtain ⟨env2, vs, h1, h2, h3⟩ := step a ha
    exact ⟨env2, vs, h1, h2, fun s H Cc cl fp => ⟨(h3 s H Cc cl fp).1, dts_nil, fun _ => (h3 s H Cc cl fp).2⟩⟩) hs ok e1 e2
  rw [List.filter_eq_self.mpr (fun _ _ => rfl)] at h
  exact h
theorem de_allC (T : Tp X.mg) (own : List (Str × Nat)) (enc : α → PyData) (as : List α) (g : α → Bool) (hc : X.calm = true) (FS : FnScope N ps sc) (src : DI X C env tg iter (as.map enc)) (hlen : as.length ≤ 10000000)
    (step : ∀ a ∈ as, ∃ env2 vs, (∀ v ∈ vs, v ∈ own.map (·.2)) ∧ env2.length = env.length ∧ ∀ (s : Shared) (H : Hp) (Cc : Addr) (cl : List (Str × Addr)) (fp : List Addr),
      DG (blkY X scope s H Cc cl fp) C tg (enc a) (wipeD env (own.map (·.2))) env2 vs ∧ DE (blkY X scope s H Cc cl fp) C env2 elt (.bool (g a)))
    (hs : ∀ x, foldedSetIterable iter X.env x = pure x := by intro _; rfl) (ok : blkC N sc scope own = true := by decide +kernel) (e1 : X.N = N := by rfl) (e2 : X.env.scope = sc := by rfl) (hg : Gl X "all" := by rfl) (he : starEach [.ListComp elt [⟨tg, iter, [], 0⟩] scope pos] X.env = (false, eval (.ListComp elt [⟨tg, iter, [], 0⟩] scope pos) X.env) :: starEach [] X.env := by rfl) :
    DE X C env (.Call (.Name "all" p) [.ListComp elt [⟨tg, iter, [], 0⟩] scope pos] [] cpos) (.bool (as.all g)) := by
  have h := (dn_map (pos := pos) own enc as (fun a => .bool (g a)) hc FS src hlen step hs ok e1 e2).dl
  have e : (as.map fun a => PyData.bool (g a)) = (as.map g).map .bool := by rw [List.map_map]; rfl
  refine (de_all T hc (h.cast e) hg he).cast ?_
  rw [List.all_map]; rfl
theorem de_anyC (T : Tp X.mg) (own : List (Str × Nat)) (enc : α → PyData) (as : List α) (g : α → Bool) (hc : X.calm = true) (FS : FnScope N ps sc) (src : DI X C env tg iter (as.map enc)) (hlen : as.length ≤ 10000000)
    (step : ∀ a ∈ as, ∃ env2 vs, (∀ v ∈ vs, v ∈ own.map (·.2)) ∧ env2.length = env.length ∧ ∀ (s : Shared) (H : Hp) (Cc : Addr) (cl : List (Str × Addr)) (fp : List Addr),
      DG (blkY X scope s H Cc cl fp) C tg (enc a) (wipeD env (own.map (·.2))) env2 vs ∧ DE (blkY X scope s H Cc cl fp) C env2 elt (.bool (g a)))
    (hs : ∀ x, foldedSetIterable iter X.env x = pure x := by intro _; rfl) (ok : blkC N sc scope own = true := by decide +kernel) (e1 : X.N = N := by rfl) (e2 : X.env.scope = sc := by rfl) (hg : Gl X "any" := by rfl) (he : starEach [.ListComp elt [⟨tg, iter, [], 0⟩] scope pos] X.env = (false, eval (.ListComp elt [⟨tg, iter, [], 0⟩] scope pos) X.env) :: starEach [] X.env := by rfl) :
    DE X C env (.Call (.Name "any" p) [.ListComp elt [⟨tg, iter, [], 0⟩] scope pos] [] cpos) (.bool (as.any g)) := by
  have h := (dn_map (pos := pos) own enc as (fun a => .bool (g a)) hc FS src hlen step hs ok e1 e2).dl
  have e : (as.map fun a => PyData.bool (g a)) = (as.map g).map .bool := by rw [List.map_map]; rfl
  refine (de_any T hc (h.cast e) hg he).cast ?_
  rw [List.any_map]; rfl
/-- [e for .. if c] -/
theorem dn_filt (own : List (Str × Nat)) (enc : α → PyData) (as : List α) (keep : α → Bool) (out : α → PyData) (hc : X.calm = true) (FS : FnScope N ps sc) (src : DI X C env tg iter (as.map enc)) (hlen : as.length ≤ 10000000)
    (step : ∀ a ∈ as, ∃ env2 vs, (∀ v ∈ vs, v ∈ own.map (·.2)) ∧ env2.length = env.length ∧ ∀ (s : Shared) (H : Hp) (Cc : Addr) (cl : List (Str × Addr)) (fp : List Addr),
      DG (blkY X scope s H Cc cl fp) C tg (enc a) (wipeD env (own.map (·.2))) env2 vs ∧ DT (blkY X scope s H Cc cl fp) C env2 c (keep a) ∧ (keep a = true → DE (blkY X scope s H Cc cl fp) C env2 elt (out a)))
    (hs : ∀ x, foldedSetIterable iter X.env x = pure x := by intro _; rfl) (ok : blkC N sc scope own = true := by decide +kernel) (e1 : X.N = N := by rfl) (e2 : X.env.scope = sc := by rfl) : DN X C env (.ListComp elt [⟨tg, iter, [c], 0⟩] scope pos) ((as.filter keep).map out) :=
  dn_lc (own := own) enc as keep out hc FS src hlen (fun a ha => by
    obtain ⟨env2, vs, h1, h2, h3⟩ := step a ha
    exact ⟨env2, vs, h1, h2, fun s H Cc cl fp => ⟨(h3 s H Cc cl fp).1, dts_one (h3 s H Cc cl fp).2.1, (h3 s H Cc cl fp).2.2⟩⟩) hs ok e1 e2
end
end TD
namespace TD
open PySem L2
section
variable {w : World} {K : PySem.W.Frag} {mg : Str → Option Value} {base : Heap} {C : Addr} {f : Addr} {fd : FuncData}
abbrev s_is_from : Stmt := top 14
theorem sc_is_from : FnScope ["value", "low", "high"] ["value", "low", "high"] (defScope s_is_from) := ⟨rfl, rfl, rfl, by decide +kernel, rfl, by decide +kernel, by decide +kernel⟩
def R_is_from (sl : List Sl) (d : PyData) : Prop := ∃ i l h : Int, sl = [.v (.int i), .v (.int l), .v (.int h)] ∧ d = .bool (decide (l ≤ i) && decide (i ≤ h))
theorem ok_is_from (T : Tp mg) (F : Fun K "is_from" "is_from" s_is_from f fd) : FnOk PP w K mg base CX0 1 f fd ["value", "low", "high"] (spD C R_is_from) :=
  mkFn F sc_is_from (fun sl d ⟨_, _, _, e, _⟩ => by rw [e]; rfl) fun cdv A outer s H E hr sl d hR => by
    obtain ⟨i, l, h, rfl, rfl⟩ := hR
    refine db_cons (ds_ret (de_and (de_isi T (de_name 0) T.int boot_int_ rfl) fun _ => de_and (de_not (de_isi T (de_name 0) T.bool boot_bool_ rfl)) fun _ => de_one (de_chain (de_name 1) (de_name 0) (de_name 2))) ?_)
    rfl
end
end TD
namespace TD
open PySem L2 TS
section
variable {w : World} {K : PySem.W.Frag} {mg : Str → Option Value} {base : Heap} {C : Addr} {f : Addr} {fd : FuncData}
abbrev s_arrows_of : Stmt := top 24
theorem sc_arrows_of : FnScope ["web", "signs", "found", "one", "other", "sign"] ["web", "signs"] (defScope s_arrows_of) := ⟨rfl, rfl, rfl, by decide +kernel, rfl, by decide +kernel, by decide +kernel⟩
def R_arrows_of (sl : List Sl) (d : PyData) : Prop := ∃ n r sg, sl = [.web n r, .v (dInts sg)] ∧ r.length ≤ 10 ∧ d = .list ((arrowsOf r sg).map dP)
theorem ok_arrows_of (T : Tp mg) (W : Wb K C) (F : Fun K "arrows_of" "arrows_of" s_arrows_of f fd) : FnOk PP w K mg base CX0 1 f fd ["web", "signs"] (spD C R_arrows_of) :=
  mkFn F sc_arrows_of (fun sl d ⟨_, _, _, e, _⟩ => by rw [e]; rfl) fun cdv A outer s H E hr sl d hR => by
    obtain ⟨n, r, sg, rfl, h10, rfl⟩ := hR
    have nd := sc_arrows_of.nd
    refine db_cons (ds_setN 2 dn_nil ?_ nd)
    refine db_cons (ds_for (fun i env => ∃ x y z, env = [.web n r, .v (dInts sg), .mu (((arrowsOf r sg).take i).map dP), x, y, z]) PassesOwn.never rfl (di_zipT T (de_rows W.cl W.nR (dw_name 0)) (de_name 1)) ⟨_, _, _, rfl⟩ ?_ ?_)
    · rintro i d env1 hd ⟨x, y, z, rfl⟩
      obtain ⟨a, b, ha, hb, rfl⟩ := dZip_get hd
      rw [List.getElem?_map] at ha hb
      cases ea : r[i]? with
      | none => rw [ea] at ha; cases ha
      | some p =>
        cases eb : sg[i]? with
        | none => rw [eb] at hb; cases hb
        | some g =>
          rw [ea] at ha; rw [eb] at hb
          cases ha; cases hb
          have er : (arrowsOf r sg)[i]? = some (if g = 1 then p else (p.2, p.1)) := by unfold arrowsOf; rw [List.getElem?_zipWith, ea, eb]
          refine ⟨_, _, dg_tup rfl (dgs_cons (dg_tup rfl (dgs_cons (dg_name 3 nd) (dgs_cons (dg_name 4 nd) dgs_nil))) (dgs_cons (dg_name 5 nd) dgs_nil)), ?_⟩
          refine db_cons (ds_append 2 rfl (d := dP (if g = 1 then p else (p.2, p.1))) (de_if (dt_cmp (dc_eqI (de_name 5) de_int)) (fun k => ?_) (fun k => ?_)) ?_ ?_)
          · rw [if_pos (of_decide_eq_true k)]; exact de_tup (da_cons (de_name 3) (da_cons (de_name 4) da_nil))
          · rw [if_neg (of_decide_eq_false k)]; exact de_tup (da_cons (de_name 4) (da_cons (de_name 3) da_nil))
          · rw [List.length_map, List.length_take]; unfold arrowsOf; rw [List.length_zipWith]; omega
          · exact db_nil ⟨_, _, _, by rw [take_map_succ er]; rfl⟩
    · rintro env1 ⟨x, y, z, rfl⟩
      refine db_freeze 2 rfl (db_cons (ds_ret (de_name 2) ?_))
      rw [List.take_of_length_le]
      unfold arrowsOf dZip; rw [List.length_zipWith, List.length_zipWith, List.length_map, List.length_map]
      exact Nat.le_refl _
abbrev s_heights_of : Stmt := top 25
theorem sc_heights_of : FnScope ["web", "signs", "arrows", "found", "turn", "before", "one", "other"] ["web", "signs"] (defScope s_heights_of) := ⟨rfl, rfl, rfl, by decide +kernel, rfl, by decide +kernel, by decide +kernel⟩
def R_heights_of (sl : List Sl) (d : PyData) : Prop := ∃ n r sg, sl = [.web n r, .v (dInts sg)] ∧ WebOk n r ∧ d = dOpt (heightsOf n r sg)
theorem max_if (a b : Int) : (if b > a then b else a) = max a b := by
  rw [Int.max_def]; split <;> split <;> omega
theorem ok_heights_of (T : Tp mg) (W : Wb K C) (gA : DFn PP w K mg base C "arrows_of" 1 R_arrows_of) (F : Fun K "heights_of" "heights_of" s_heights_of f fd) : FnOk PP w K mg base CX0 2 f fd ["web", "signs"] (spD C R_heights_of) :=
  mkFn F sc_heights_of (fun sl d ⟨_, _, _, e, _⟩ => by rw [e]; rfl) fun cdv A outer s H E hr sl d hR => by
    obtain ⟨n, r, sg, rfl, wo, rfl⟩ := hR
    have nd := sc_heights_of.nd
    have hle := wo.le
    have hin := arcs1_in (arrows_lt (sg := sg) wo.lt)
    refine db_cons (ds_parN 2 3 (de_call gA hr (das_w (dw_name 0) (das_v (de_name 1) das_nil)) ⟨n, r, sg, rfl, wo.len, rfl⟩) (dn_rep1 (dn_lst (da_cons de_int da_nil)).dl (de_many W.cl W.nM (dw_name 0)) (by omega)) ?_ rfl nd)
    refine db_cons (ds_for (fun i env => ∃ f x y z u, env = [.web n r, .v (dInts sg), .v (.list ((arrowsOf r sg).map dP)), .mu (f.map .int), x, y, z, u] ∧ f.length = n ∧ heightsOf n r sg = bf (n - i) (arcs1 (arrowsOf r sg)) f) PassesOwn.never rfl
      (di_range1 T (de_many W.cl W.nM (dw_name 0)) ⟨by omega, by omega⟩) ⟨zeros n, .no, .no, .no, .no, ?_, zeros_len n, rfl⟩ ?_ ?_)
    · show [Sl.web n r, .v (dInts sg), .v (.list ((arrowsOf r sg).map dP)), .mu (List.replicate n (.int 0)), .no, .no, .no, .no] = _
      rw [zeros, List.map_replicate]
    · rintro i d env1 hd ⟨f, x, y, z, u, rfl, hl, hh⟩
      have hi : i < n := by
        have := (List.getElem?_eq_some_iff.mp hd).1
        unfold dRange at this
        rw [List.length_map, List.length_range] at this
        omega
      refine ⟨_, _, dg_name 4 nd, ?_⟩
      refine db_cons (ds_set 5 (dn_list T (dl_name 3).dq).de ?_ nd)
      refine db_cons (ds_for (fun j env => ∃ z u, env = [.web n r, .v (dInts sg), .v (.list ((arrowsOf r sg).map dP)), .mu ((round ((arcs1 (arrowsOf r sg)).take j) f).map .int), .v d, .v (dIntsL f), z, u]) PassesOwn.never rfl (di_list (de_name 2)) ⟨z, u, rfl⟩ ?_ ?_)
      · rintro j e env2 he ⟨z, u, rfl⟩
        obtain ⟨p, hp, rfl⟩ := map_get he
        have hpn := arrows_lt (sg := sg) wo.lt p (List.mem_of_getElem? hp)
        have hl2 : (round ((arcs1 (arrowsOf r sg)).take j) f).length = n := by rw [round_len, hl]
        have hstep : round ((arcs1 (arrowsOf r sg)).take (j + 1)) f = relax (round ((arcs1 (arrowsOf r sg)).take j) f) (p.1, p.2, 1) := by
          have e2 : (arcs1 (arrowsOf r sg))[j]? = some (p.1, p.2, 1) := by unfold arcs1; rw [List.getElem?_map, hp]; rfl
          rw [List.take_add_one, e2]
          unfold round
          rw [List.foldl_append]; rfl
        refine ⟨_, _, dg_tup rfl (dgs_cons (dg_name 6 nd) (dgs_cons (dg_name 7 nd) dgs_nil)), ?_⟩
        refine db_cons (ds_setI 3 rfl (de_max2 T rfl (de_ixL (dl_name 3) (de_name 7) (atI_ints (by rw [hl2]; exact hpn.2))) (de_add (de_ixL (dl_name 3) (de_name 6) (atI_ints (by rw [hl2]; exact hpn.1))) de_int)) (de_name 7) (by rw [List.length_map, hl2]; exact hpn.2) ?_)
        refine db_nil ⟨.v (dI p.1), .v (dI p.2), ?_⟩
        rw [max_if, set_ints, hstep]
        rfl
      · rintro env2 ⟨z, u, rfl⟩
        have hfull : (arcs1 (arrowsOf r sg)).take ((arrowsOf r sg).map dP).length = arcs1 (arrowsOf r sg) := List.take_of_length_le (by unfold arcs1; rw [List.length_map, List.length_map]; exact Nat.le_refl _)
        rw [hfull]
        refine db_cons (ds_if (dt_cmp (dc_eq hr.units (de_name 5).dr (dl_name 3).dr (lay_dIntsL _).sh (lay_dIntsL _).sh (eqv_dIntsL f (round (arcs1 (arrowsOf r sg)) f)))) (fun k => ?_) (fun k => ?_))
        · refine db_cons (ds_ret (de_tuple T (dl_name 3)) ?_)
          show _ = dOpt _
          rw [hh, show n - i = (n - i - 1) + 1 by omega, bf, if_pos (of_decide_eq_true k)]; rfl
        · refine db_nil (db_nil ⟨_, _, _, _, _, rfl, by rw [round_len, hl], ?_⟩)
          rw [hh, show n - i = (n - (i + 1)) + 1 by omega, bf, if_neg (of_decide_eq_false k)]
    · rintro env1 ⟨f, x, y, z, u, rfl, hl, hh⟩
      refine db_cons (ds_ret de_non ?_)
      have : (dRange 0 ((n : Int)).toNat).length = n := by unfold dRange; rw [List.length_map, List.length_range]; omega
      rw [hh, this, Nat.sub_self]; rfl
abbrev s_is_ringless : Stmt := top 26
theorem sc_is_ringless : FnScope ["web", "signs"] ["web", "signs"] (defScope s_is_ringless) := ⟨rfl, rfl, rfl, by decide +kernel, rfl, by decide +kernel, by decide +kernel⟩
def R_is_ringless (sl : List Sl) (d : PyData) : Prop := ∃ n r sg, sl = [.web n r, .v (dInts sg)] ∧ WebOk n r ∧ d = .bool (heightsOf n r sg).isSome
theorem dOpt_none (o : Option (List Int)) : (!isNone (dOpt o)) = o.isSome := by cases o <;> rfl
theorem ok_is_ringless (gH : DFn PP w K mg base C "heights_of" 2 R_heights_of) (F : Fun K "is_ringless" "is_ringless" s_is_ringless f fd) : FnOk PP w K mg base CX0 3 f fd ["web", "signs"] (spD C R_is_ringless) :=
  mkFn F sc_is_ringless (fun sl d ⟨_, _, _, e, _⟩ => by rw [e]; rfl) fun cdv A outer s H E hr sl d hR => by
    obtain ⟨n, r, sg, rfl, wo, rfl⟩ := hR
    refine db_cons (ds_ret (de_cmp (dc_notN (de_call gH hr (das_w (dw_name 0) (das_v (de_name 1) das_nil)) ⟨n, r, sg, rfl, wo, rfl⟩))) ?_)
    rw [dOpt_none]
end
end TD
namespace TD
open PySem L2 TS
section
variable {w : World} {K : PySem.W.Frag} {mg : Str → Option Value} {base : Heap} {C : Addr} {f : Addr} {fd : FuncData}
abbrev s_are_signs : Stmt := top 22
theorem sc_are_signs : FnScope ["web", "value", "one"] ["web", "value"] (defScope s_are_signs) := ⟨rfl, rfl, rfl, by decide +kernel, rfl, by decide +kernel, by decide +kernel⟩
def R_are_signs (sl : List Sl) (d : PyData) : Prop := ∃ n r sg, sl = [.web n r, .v (dInts sg)] ∧ SgOk r sg ∧ r.length ≤ 10 ∧ d = .bool true
theorem ok_are_signs (T : Tp mg) (W : Wb K C) (gI : DFn PP w K mg base C "is_from" 1 R_is_from) (F : Fun K "are_signs" "are_signs" s_are_signs f fd) : FnOk PP w K mg base CX0 2 f fd ["web", "value"] (spD C R_are_signs) :=
  mkFn F sc_are_signs (fun sl d ⟨_, _, _, e, _⟩ => by rw [e]; rfl) fun cdv A outer s H E hr sl d hR => by
    obtain ⟨n, r, sg, rfl, so, h10, rfl⟩ := hR
    have nd := sc_are_signs.nd
    have hl := so.len
    refine db_cons (ds_if (DPW.dt (dw_or (dt_not (dt_val (de_isi T (de_name 1) T.tuple boot_tuple_ rfl))) (dw_or1 (dt_cmp (dc_neI (de_len T (de_name 1).dq) (de_len T (de_rows W.cl W.nR (dw_name 0)).dq)))))) (fun k => ?_) (fun _ => ?_))
    · simp [hl] at k
    · refine db_nil (db_cons (ds_ret (de_allC T [("one", 2)] .int sg (fun x => (decide (-1 ≤ x) && decide (x ≤ 1)) && !decide (x = 0)) rfl sc_are_signs (di_tup (de_name 1)) (by omega) fun a ha => ⟨_, _, ?_, ?_, fun s H Cc cl fp => ⟨dg_name 2 nd, ?_⟩⟩) ?_))
      · decide
      · rfl
      · exact de_and (de_call gI hr (das_v (de_name 2) (das_v (de_neg de_int) (das_v de_int das_nil))) ⟨a, -1, 1, rfl, rfl⟩) fun _ => de_one (de_cmp (dc_neI (de_name 2) de_int))
      · show PyData.bool _ = _
        congr 1
        rw [List.all_eq_true]
        intro x hx
        rcases so.pm x hx with rfl | rfl <;> rfl
abbrev s_check_signs : Stmt := top 23
theorem sc_check_signs : FnScope ["web", "value"] ["web", "value"] (defScope s_check_signs) := ⟨rfl, rfl, rfl, by decide +kernel, rfl, by decide +kernel, by decide +kernel⟩
def R_check_signs (sl : List Sl) (d : PyData) : Prop := ∃ n r sg, sl = [.web n r, .v (dInts sg)] ∧ SgOk r sg ∧ r.length ≤ 10 ∧ d = .none
theorem ok_check_signs (gA : DFn PP w K mg base C "are_signs" 2 R_are_signs) (F : Fun K "check_signs" "check_signs" s_check_signs f fd) : FnOk PP w K mg base CX0 3 f fd ["web", "value"] (spD C R_check_signs) :=
  mkFn F sc_check_signs (fun sl d ⟨_, _, _, e, _⟩ => by rw [e]; rfl) fun cdv A outer s H E hr sl d hR => by
    obtain ⟨n, r, sg, rfl, so, h10, rfl⟩ := hR
    exact db_cons (ds_if (dt_not (dt_val (de_call gA hr (das_w (dw_name 0) (das_v (de_name 1) das_nil)) ⟨n, r, sg, rfl, so, h10, rfl⟩))) (fun k => by cases k) (fun _ => db_nil (db_nil rfl)))
abbrev s_check_ringless : Stmt := top 27
theorem sc_check_ringless : FnScope ["web", "value"] ["web", "value"] (defScope s_check_ringless) := ⟨rfl, rfl, rfl, by decide +kernel, rfl, by decide +kernel, by decide +kernel⟩
/-- the signs lead nowhere round -/
def Rl (n : Nat) (r : List (Nat × Nat)) (sg : List Int) : Prop := SgOk r sg ∧ ∃ h, heightsOf n r sg = some h
def R_check_ringless (sl : List Sl) (d : PyData) : Prop := ∃ n r sg, sl = [.web n r, .v (dInts sg)] ∧ WebOk n r ∧ Rl n r sg ∧ d = .none
theorem ok_check_ringless (gC : DFn PP w K mg base C "check_signs" 3 R_check_signs) (gR : DFn PP w K mg base C "is_ringless" 3 R_is_ringless) (F : Fun K "check_ringless" "check_ringless" s_check_ringless f fd) : FnOk PP w K mg base CX0 4 f fd ["web", "value"] (spD C R_check_ringless) :=
  mkFn F sc_check_ringless (fun sl d ⟨_, _, _, e, _⟩ => by rw [e]; rfl) fun cdv A outer s H E hr sl d hR => by
    obtain ⟨n, r, sg, rfl, wo, ⟨so, h, hh⟩, rfl⟩ := hR
    refine db_cons (ds_expr (de_call gC hr (das_w (dw_name 0) (das_v (de_name 1) das_nil)) ⟨n, r, sg, rfl, so, wo.len, rfl⟩) ?_)
    refine db_cons (ds_if (dt_not (dt_val (de_call gR hr (das_w (dw_name 0) (das_v (de_name 1) das_nil)) ⟨n, r, sg, rfl, wo, rfl⟩))) (fun k => ?_) (fun _ => db_nil (db_nil rfl)))
    rw [hh] at k; cases k
abbrev s_leads_round : Stmt := top 28
theorem sc_leads_round : FnScope ["web", "signs"] ["web", "signs"] (defScope s_leads_round) := ⟨rfl, rfl, rfl, by decide +kernel, rfl, by decide +kernel, by decide +kernel⟩
def R_leads_round (sl : List Sl) (d : PyData) : Prop := ∃ n r sg, sl = [.web n r, .v (dInts sg)] ∧ WebOk n r ∧ Rl n r sg ∧ d = .bool false
theorem ok_leads_round (gC : DFn PP w K mg base C "check_signs" 3 R_check_signs) (gR : DFn PP w K mg base C "is_ringless" 3 R_is_ringless) (F : Fun K "leads_round" "leads_round" s_leads_round f fd) : FnOk PP w K mg base CX0 4 f fd ["web", "signs"] (spD C R_leads_round) :=
  mkFn F sc_leads_round (fun sl d ⟨_, _, _, e, _⟩ => by rw [e]; rfl) fun cdv A outer s H E hr sl d hR => by
    obtain ⟨n, r, sg, rfl, wo, ⟨so, h, hh⟩, rfl⟩ := hR
    refine db_cons (ds_expr (de_call gC hr (das_w (dw_name 0) (das_v (de_name 1) das_nil)) ⟨n, r, sg, rfl, so, wo.len, rfl⟩) ?_)
    refine db_cons (ds_ret (de_not (de_call gR hr (das_w (dw_name 0) (das_v (de_name 1) das_nil)) ⟨n, r, sg, rfl, wo, rfl⟩)) ?_)
    rw [hh]; rfl
abbrev s_read_off : Stmt := top 29
theorem sc_read_off : FnScope ["web", "signs"] ["web", "signs"] (defScope s_read_off) := ⟨rfl, rfl, rfl, by decide +kernel, rfl, by decide +kernel, by decide +kernel⟩
def R_read_off (sl : List Sl) (d : PyData) : Prop := ∃ n r sg h, sl = [.web n r, .v (dInts sg)] ∧ WebOk n r ∧ SgOk r sg ∧ heightsOf n r sg = some h ∧ d = dInts h
theorem ok_read_off (gC : DFn PP w K mg base C "check_ringless" 4 R_check_ringless) (gH : DFn PP w K mg base C "heights_of" 2 R_heights_of) (F : Fun K "read_off" "read_off" s_read_off f fd) : FnOk PP w K mg base CX0 5 f fd ["web", "signs"] (spD C R_read_off) :=
  mkFn F sc_read_off (fun sl d ⟨_, _, _, _, e, _⟩ => by rw [e]; rfl) fun cdv A outer s H E hr sl d hR => by
    obtain ⟨n, r, sg, h, rfl, wo, so, hh, rfl⟩ := hR
    refine db_cons (ds_expr (de_call gC hr (das_w (dw_name 0) (das_v (de_name 1) das_nil)) ⟨n, r, sg, rfl, wo, ⟨so, h, hh⟩, rfl⟩) ?_)
    refine db_cons (ds_ret (de_call gH (hr.mono (by decide)) (das_w (dw_name 0) (das_v (de_name 1) das_nil)) ⟨n, r, sg, rfl, wo, rfl⟩) ?_)
    rw [hh]; rfl
end
end TD
namespace TD
open PySem L2 TS
section
variable {w : World} {K : PySem.W.Frag} {mg : Str → Option Value} {base : Heap} {C : Addr} {f : Addr} {fd : FuncData}
abbrev s_are_colours : Stmt := top 32
theorem sc_are_colours : FnScope ["web", "value", "one", "other"] ["web", "value"] (defScope s_are_colours) := ⟨rfl, rfl, rfl, by decide +kernel, rfl, by decide +kernel, by decide +kernel⟩
def R_are_colours (sl : List Sl) (d : PyData) : Prop := ∃ n r cs, sl = [.web n r, .v (dInts cs)] ∧ WebOk n r ∧ ColOk n r cs ∧ d = .bool true
theorem ok_are_colours (T : Tp mg) (W : Wb K C) {tk : Tok} (gM : mg "MOST_COLOUR" = some (.int 20 tk)) (gI : DFn PP w K mg base C "is_from" 1 R_is_from) (F : Fun K "are_colours" "are_colours" s_are_colours f fd) : FnOk PP w K mg base CX0 2 f fd ["web", "value"] (spD C R_are_colours) :=
  mkFn F sc_are_colours (fun sl d ⟨_, _, _, e, _⟩ => by rw [e]; rfl) fun cdv A outer s H E hr sl d hR => by
    obtain ⟨n, r, cs, rfl, wo, co, rfl⟩ := hR
    have nd := sc_are_colours.nd
    have hl := co.len
    have h6 := wo.le
    have h10 := wo.len
    refine db_cons (ds_if (DPW.dt (dw_or (dt_not (dt_val (de_isi T (de_name 1) T.tuple boot_tuple_ rfl))) (dw_or1 (dt_cmp (dc_neI (de_len T (de_name 1).dq) (de_many W.cl W.nM (dw_name 0))))))) (fun k => ?_) (fun _ => ?_))
    · simp [hl] at k
    · refine db_nil (db_cons (ds_if (dt_not (dt_val (de_allC T [("one", 2)] .int cs (fun x => (decide (0 ≤ x) && decide (x ≤ 20))) rfl sc_are_colours (di_tup (de_name 1)) (by omega) fun a ha => ⟨_, _, ?_, ?_, fun s H Cc cl fp => ⟨dg_name 2 nd, ?_⟩⟩))) (fun k => ?_) (fun _ => ?_)))
      · decide
      · rfl
      · exact de_call gI hr (das_v (de_name 2) (das_v de_int (das_v (de_globI gM) das_nil))) ⟨a, 0, 20, rfl, rfl⟩
      · have : cs.all (fun x => (decide (0 ≤ x) && decide (x ≤ 20))) = true := List.all_eq_true.mpr fun x hx => by have := co.rng x hx; simp; omega
        rw [this] at k; cases k
      · refine db_nil (db_cons (ds_ret (de_allC T [("one", 2), ("other", 3)] dP r (fun p => !decide (gt cs p.1 = gt cs p.2)) rfl sc_are_colours (di_tup (de_rows W.cl W.nR (dw_name 0))) (by omega) fun a ha => ⟨_, _, ?_, ?_, fun s H Cc cl fp => ⟨dg_tup rfl (dgs_cons (dg_name 2 nd) (dgs_cons (dg_name 3 nd) dgs_nil)), ?_⟩⟩) ?_))
        · decide
        · rfl
        · have hp := wo.lt a ha
          exact de_cmp (dc_neI (de_ixT (de_name 1) (de_name 2) (atI_ints (by rw [hl]; omega))) (de_ixT (de_name 1) (de_name 3) (atI_ints (by rw [hl]; omega))))
        · show PyData.bool _ = _
          congr 1
          rw [List.all_eq_true]
          intro p hp
          have := co.prop p hp
          simpa using this
abbrev s_check_colours : Stmt := top 33
theorem sc_check_colours : FnScope ["web", "value"] ["web", "value"] (defScope s_check_colours) := ⟨rfl, rfl, rfl, by decide +kernel, rfl, by decide +kernel, by decide +kernel⟩
def R_check_colours (sl : List Sl) (d : PyData) : Prop := ∃ n r cs, sl = [.web n r, .v (dInts cs)] ∧ WebOk n r ∧ ColOk n r cs ∧ d = .none
theorem ok_check_colours (gA : DFn PP w K mg base C "are_colours" 2 R_are_colours) (F : Fun K "check_colours" "check_colours" s_check_colours f fd) : FnOk PP w K mg base CX0 3 f fd ["web", "value"] (spD C R_check_colours) :=
  mkFn F sc_check_colours (fun sl d ⟨_, _, _, e, _⟩ => by rw [e]; rfl) fun cdv A outer s H E hr sl d hR => by
    obtain ⟨n, r, cs, rfl, wo, co, rfl⟩ := hR
    exact db_cons (ds_if (dt_not (dt_val (de_call gA hr (das_w (dw_name 0) (das_v (de_name 1) das_nil)) ⟨n, r, cs, rfl, wo, co, rfl⟩))) (fun k => by cases k) (fun _ => db_nil (db_nil rfl)))
abbrev s_signs_by : Stmt := top 34
theorem sc_signs_by : FnScope ["web", "colours", "one", "other"] ["web", "colours"] (defScope s_signs_by) := ⟨rfl, rfl, rfl, by decide +kernel, rfl, by decide +kernel, by decide +kernel⟩
def R_signs_by (sl : List Sl) (d : PyData) : Prop := ∃ n r cs, sl = [.web n r, .v (dInts cs)] ∧ WebOk n r ∧ cs.length = n ∧ d = dInts (signsBy r cs)
theorem ok_signs_by (T : Tp mg) (W : Wb K C) (F : Fun K "signs_by" "signs_by" s_signs_by f fd) : FnOk PP w K mg base CX0 1 f fd ["web", "colours"] (spD C R_signs_by) :=
  mkFn F sc_signs_by (fun sl d ⟨_, _, _, e, _⟩ => by rw [e]; rfl) fun cdv A outer s H E hr sl d hR => by
    obtain ⟨n, r, cs, rfl, wo, hl, rfl⟩ := hR
    have nd := sc_signs_by.nd
    have h10 := wo.len
    refine db_cons (ds_ret (de_tuple T (dn_map [("one", 2), ("other", 3)] dP r (fun p => .int (if gt cs p.1 < gt cs p.2 then 1 else -1)) rfl sc_signs_by (di_tup (de_rows W.cl W.nR (dw_name 0))) (by omega) fun a ha => ⟨_, _, ?_, ?_, fun s H Cc cl fp => ⟨dg_tup rfl (dgs_cons (dg_name 2 nd) (dgs_cons (dg_name 3 nd) dgs_nil)), ?_⟩⟩).dl) ?_)
    · decide
    · rfl
    · have hp := wo.lt a ha
      refine de_if (dt_cmp (dc_lt (de_ixT (de_name 1) (de_name 2) (atI_ints (by rw [hl]; omega))) (de_ixT (de_name 1) (de_name 3) (atI_ints (by rw [hl]; omega))))) (fun k => ?_) (fun k => ?_)
      · rw [if_pos (of_decide_eq_true k)]; exact de_int
      · rw [if_neg (of_decide_eq_false k)]; exact de_neg de_int
    · show PyData.tuple _ = PyData.tuple ((r.map _).map _)
      rw [List.map_map]; rfl
abbrev s_signs_of : Stmt := top 35
theorem sc_signs_of : FnScope ["web", "colours"] ["web", "colours"] (defScope s_signs_of) := ⟨rfl, rfl, rfl, by decide +kernel, rfl, by decide +kernel, by decide +kernel⟩
def R_signs_of (sl : List Sl) (d : PyData) : Prop := ∃ n r cs, sl = [.web n r, .v (dInts cs)] ∧ WebOk n r ∧ ColOk n r cs ∧ d = dInts (signsBy r cs)
theorem ok_signs_of (gC : DFn PP w K mg base C "check_colours" 3 R_check_colours) (gS : DFn PP w K mg base C "signs_by" 1 R_signs_by) (F : Fun K "signs_of" "signs_of" s_signs_of f fd) : FnOk PP w K mg base CX0 4 f fd ["web", "colours"] (spD C R_signs_of) :=
  mkFn F sc_signs_of (fun sl d ⟨_, _, _, e, _⟩ => by rw [e]; rfl) fun cdv A outer s H E hr sl d hR => by
    obtain ⟨n, r, cs, rfl, wo, co, rfl⟩ := hR
    refine db_cons (ds_expr (de_call gC hr (das_w (dw_name 0) (das_v (de_name 1) das_nil)) ⟨n, r, cs, rfl, wo, co, rfl⟩) ?_)
    exact db_cons (ds_ret (de_call gS (hr.mono (by decide)) (das_w (dw_name 0) (das_v (de_name 1) das_nil)) ⟨n, r, cs, rfl, wo, co.len, rfl⟩) rfl)
abbrev s_all_signs : Stmt := top 36
theorem sc_all_signs : FnScope ["many", "found", "turn", "row", "sign"] ["many"] (defScope s_all_signs) := ⟨rfl, rfl, rfl, by decide +kernel, rfl, by decide +kernel, by decide +kernel⟩
def R_all_signs (sl : List Sl) (d : PyData) : Prop := ∃ m, sl = [.v (dI m)] ∧ m ≤ 10 ∧ d = dSgs (allSigns m)
theorem ok_all_signs (T : Tp mg) (F : Fun K "all_signs" "all_signs" s_all_signs f fd) : FnOk PP w K mg base CX0 1 f fd ["many"] (spD C R_all_signs) :=
  mkFn F sc_all_signs (fun sl d ⟨_, e, _⟩ => by rw [e]; rfl) fun cdv A outer s H E hr sl d hR => by
    obtain ⟨m, rfl, h10, rfl⟩ := hR
    have nd := sc_all_signs.nd
    refine db_cons (ds_set 1 (dn_lst (da_cons (de_tup da_nil) da_nil)).de ?_ nd)
    refine db_cons (ds_for (fun i env => ∃ x y z, env = [.v (dI m), .v (dSgs (allSigns i)), x, y, z]) PassesOwn.never rfl (di_range1 T (de_name 0) ⟨by omega, by omega⟩) ⟨_, _, _, rfl⟩ ?_ ?_)
    · rintro i d env1 hd ⟨x, y, z, rfl⟩
      have hi : i < m := by
        have := (List.getElem?_eq_some_iff.mp hd).1
        unfold dRange at this
        rw [List.length_map, List.length_range] at this
        omega
      have hlen := allSigns_le (m := i + 1) (by omega)
      refine ⟨_, _, dg_name 2 nd, ?_⟩
      refine db_cons (ds_setLc2 1 [("row", 3), ("sign", 4)] dInts (allSigns i) (fun _ => .int) (fun _ => [-1, 1]) (fun row s => dInts (row ++ [s])) [4] rfl sc_all_signs (by decide) (di_list (de_name 1)) ?_ (fun a ha => ⟨_, _, ?_, ?_, fun s H Cc cl fp => ⟨dg_name 3 nd, ?_, fun b hb => ⟨_, _, ?_, ?_, fun s H Cc cl fp => ⟨dg_name 4 nd, ?_⟩⟩⟩⟩) ?_)
      · have e : ∀ l : List (List Int), (l.flatMap fun _ => ([-1, 1] : List Int)).length = (l.flatMap fun row => [-1, 1].map fun (s : Int) => row ++ [s]).length := fun l => by
          induction l with
          | nil => rfl
          | cons a l ih => rw [List.flatMap_cons, List.flatMap_cons, List.length_append, List.length_append, ih]; rfl
        rw [e]
        exact Nat.le_trans hlen (by decide)
      · decide
      · rfl
      · exact di_tup (de_tup (da_cons (de_neg de_int) (da_cons de_int da_nil)))
      · decide
      · rfl
      · have hal := ((allSigns_mem i a).mp ha).1
        refine (de_tup (da_star (de_name 3).dq (da_cons (de_name 4) da_nil)) ?_).cast ?_
        · rw [List.length_append, List.length_map, hal, sizeLine_eq]; simp; omega
        · show PyData.tuple (a.map .int ++ [.int b]) = PyData.tuple ((a ++ [b]).map .int)
          rw [List.map_append]; rfl
      · refine db_nil ⟨.v d, y, z, ?_⟩
        show [Sl.v (dI m), .v (.list ((allSigns i).flatMap fun a => [-1, 1].map fun s => dInts (a ++ [s]))), .v d, y, z] = [Sl.v (dI m), .v (.list (((allSigns i).flatMap fun row => [-1, 1].map fun s => row ++ [s]).map dInts)), .v d, y, z]
        rw [List.map_flatMap]; rfl
    · rintro env1 ⟨x, y, z, rfl⟩
      refine db_cons (ds_ret (de_name 1) ?_)
      have : (dRange 0 ((m : Int)).toNat).length = m := by unfold dRange; rw [List.length_map, List.length_range]; omega
      rw [this]
abbrev s_ringless_signs : Stmt := top 37
theorem sc_ringless_signs : FnScope ["web", "signs"] ["web"] (defScope s_ringless_signs) := ⟨rfl, rfl, rfl, by decide +kernel, rfl, by decide +kernel, by decide +kernel⟩
def R_ringless_signs (sl : List Sl) (d : PyData) : Prop := ∃ n r, sl = [.web n r] ∧ WebOk n r ∧ d = dSgs (ringlessSigns n r)
theorem ok_ringless_signs (T : Tp mg) (W : Wb K C) (gA : DFn PP w K mg base C "all_signs" 1 R_all_signs) (gR : DFn PP w K mg base C "is_ringless" 3 R_is_ringless) (F : Fun K "ringless_signs" "ringless_signs" s_ringless_signs f fd) : FnOk PP w K mg base CX0 4 f fd ["web"] (spD C R_ringless_signs) :=
  mkFn F sc_ringless_signs (fun sl d ⟨_, _, e, _⟩ => by rw [e]; rfl) fun cdv A outer s H E hr sl d hR => by
    obtain ⟨n, r, rfl, wo, rfl⟩ := hR
    have nd := sc_ringless_signs.nd
    have h10 := wo.len
    have hlen := allSigns_le (m := r.length) h10
    refine db_cons (ds_ret (dn_filt [("signs", 1)] dInts (allSigns r.length) (fun sg => (heightsOf n r sg).isSome) dInts rfl sc_ringless_signs (di_list (de_call gA (hr.mono (by decide)) (das_v (de_len T (de_rows W.cl W.nR (dw_name 0)).dq) das_nil) ⟨r.length, by rw [List.length_map], h10, rfl⟩)) (by omega) fun a ha => ⟨_, _, ?_, ?_, fun s H Cc cl fp => ⟨dg_name 1 nd, ?_, fun _ => de_name 1⟩⟩).de ?_)
    · decide
    · rfl
    · exact dt_val (de_call gR hr (das_w (dw_name 0) (das_v (de_name 1) das_nil)) ⟨n, r, a, rfl, wo, rfl⟩)
    · rfl
abbrev s_signings : Stmt := top 38
theorem sc_signings : FnScope ["web"] ["web"] (defScope s_signings) := ⟨rfl, rfl, rfl, by decide +kernel, rfl, by decide +kernel, by decide +kernel⟩
theorem ok_signings (gR : DFn PP w K mg base C "ringless_signs" 4 R_ringless_signs) (F : Fun K "signings" "signings" s_signings f fd) : FnOk PP w K mg base CX0 5 f fd ["web"] (spD C R_ringless_signs) :=
  mkFn F sc_signings (fun sl d ⟨_, _, e, _⟩ => by rw [e]; rfl) fun cdv A outer s H E hr sl d hR => by
    obtain ⟨n, r, rfl, wo, rfl⟩ := hR
    exact db_cons (ds_ret (de_call gR hr (das_w (dw_name 0) das_nil) ⟨n, r, rfl, wo, rfl⟩) rfl)
abbrev s_signs_with : Stmt := top 39
theorem sc_signs_with : FnScope ["web", "colours", "signs"] ["web", "colours"] (defScope s_signs_with) := ⟨rfl, rfl, rfl, by decide +kernel, rfl, by decide +kernel, by decide +kernel⟩
def R_signs_with (sl : List Sl) (d : PyData) : Prop := ∃ n r cs, sl = [.web n r, .v (dInts cs)] ∧ WebOk n r ∧ ColOk n r cs ∧ d = dSgs ((ringlessSigns n r).filter fun sg => decide (heightsOf n r sg = some cs))
theorem lay_dOpt (o : Option (List Int)) : Lay 1 (dOpt o) := by
  cases o with
  | none => exact ⟨lay_non.c, Nat.le_trans lay_non.d (by decide)⟩
  | some l => exact lay_dInts l
theorem eqv_dOpt (o : Option (List Int)) (cs : List Int) : PyData.eqv (dOpt o) (dInts cs) = decide (o = some cs) := by
  cases o with
  | none => simp [dOpt, dInts, PyData.eqv]
  | some l =>
    show PyData.eqv (dInts l) (dInts cs) = _
    rw [eqv_dInts]; simp
theorem ok_signs_with (gC : DFn PP w K mg base C "check_colours" 3 R_check_colours) (gR : DFn PP w K mg base C "ringless_signs" 4 R_ringless_signs) (gH : DFn PP w K mg base C "heights_of" 2 R_heights_of) (F : Fun K "signs_with" "signs_with" s_signs_with f fd) : FnOk PP w K mg base CX0 5 f fd ["web", "colours"] (spD C R_signs_with) :=
  mkFn F sc_signs_with (fun sl d ⟨_, _, _, e, _⟩ => by rw [e]; rfl) fun cdv A outer s H E hr sl d hR => by
    obtain ⟨n, r, cs, rfl, wo, co, rfl⟩ := hR
    have nd := sc_signs_with.nd
    have hlen := allSigns_le (m := r.length) wo.len
    have hlen2 : (ringlessSigns n r).length ≤ 1024 := Nat.le_trans (List.length_filter_le _ _) hlen
    refine db_cons (ds_expr (de_call gC (hr.mono (by decide)) (das_w (dw_name 0) (das_v (de_name 1) das_nil)) ⟨n, r, cs, rfl, wo, co, rfl⟩) ?_)
    refine db_cons (ds_ret (dn_filt [("signs", 2)] dInts (ringlessSigns n r) (fun sg => decide (heightsOf n r sg = some cs)) dInts rfl sc_signs_with (di_list (de_call gR hr (das_w (dw_name 0) das_nil) ⟨n, r, rfl, wo, rfl⟩)) (by omega) fun a ha => ⟨_, _, ?_, ?_, fun s H Cc cl fp => ⟨dg_name 2 nd, ?_, fun _ => de_name 2⟩⟩).de ?_)
    · decide
    · rfl
    · exact dt_cmp (dc_eq hr.units (de_call gH (hr.mono (by decide)) (das_w (dw_name 0) (das_v (de_name 2) das_nil)) ⟨n, r, a, rfl, wo, rfl⟩).dr (de_name 1).dr (lay_dOpt _).sh (lay_dInts _).sh (eqv_dOpt _ _))
    · rfl
end
end TD
namespace TD
open PySem L2 PyProof.Rows
/-! ### sorted of a list of data -/
theorem each_of {β : Type} {G : Hp} {enc : β → PyData} : ∀ {bs : List β} {xs : List V} {its : List Value}, Vals xs its → RpAll G xs (bs.map enc) → PySem.W.EachIs (fun (v : Value) b => ∃ x, RelV x v ∧ Rp G x (enc b)) its bs
  | [], _, _, .nil, _ => .nil
  | [], _, _, .cons _ _, r => nomatch r
  | b :: bs, _, _, .nil, r => nomatch r
  | b :: bs, _, _, .cons h t, .cons r rs => .cons ⟨_, h, r⟩ (each_of t rs)
theorem each_back {β : Type} {G : Hp} {enc : β → PyData} : ∀ {bs : List β} {out : List Value}, PySem.W.EachIs (fun (v : Value) b => ∃ x, RelV x v ∧ Rp G x (enc b)) out bs → ∃ xs, Vals xs out ∧ RpAll G xs (bs.map enc)
  | _, _, .nil => ⟨[], .nil, .nil⟩
  | _, _, .cons ⟨x, h, r⟩ t => let ⟨xs, h2, r2⟩ := each_back t; ⟨x :: xs, .cons h h2, .cons r r2⟩
def rSortedD (X : Cx) : List V → Hp → VK → Prop := fun vs H Q => ∃ (a : Addr) (G : Hp) (β : Type) (enc : β → PyData) (bs : List β) (xs : List V), vs = [.ref a] ∧ SqL X.K H a xs ∧ Same G H ∧ RpAll G xs (bs.map enc) ∧
  PySem.W.AllAlike (bs.map enc) ∧ PySem.W.Sortable (bs.map enc) ∧ (∀ b ∈ bs, X.A.units + 2 + (enc b).depth < cLine) ∧ ∀ ys p, RpAll G ys ((bs.mergeSort (PySem.W.dataLe false enc)).map enc) → H p = none → Q (.ref p) (upd H p (.lst ys))
theorem cr_sortedD {X : Cx} : CallR X (.builtin "sorted") (rSortedD X) := by
  intro pins s σ H vs us Q I r h
  obtain ⟨a, G, β, enc, bs, xs, rfl, hs, sm, rp, hal, hk, hu, q⟩ := h
  obtain ⟨its, rv, hl, hz⟩ := I.list hs
  rw [Vals.ref1 r]
  obtain ⟨as, hr⟩ := Dp.readsAll I _ _ _ ((rp.mono sm).dp X.K) rv
  have hlen : xs.length = bs.length := by rw [rp.length, List.length_map]
  refine PySem.W.sorted_data hl.isList (each_of rv rp) (PySem.W.readsAll_each enc hr) hal hk (by rw [← hlen]; exact hz) hu fun out hol e => ?_
  obtain ⟨ys, hv, hy⟩ := each_back e
  obtain ⟨n, hn⟩ := sortedAll_at s.heap its out.toArray
  refine ⟨.ref _, upd H _ (.lst ys), I.laid (t' := s.toks) (fun b o e => sortedAll_old e) (Nat.le_succ _) ⟨?_, out, n, hv, hn⟩, rfl, q ys _ hy (I.hok.fresh (Nat.le_succ _))⟩
  rw [hv.length, hol, ← hlen]; exact hz
/-- at most one item: nothing is compared -/
def rSorted1 (X : Cx) : List V → Hp → VK → Prop := fun vs H Q => ∃ (a : Addr) (xs : List V), vs = [.ref a] ∧ SqL X.K H a xs ∧ xs.length ≤ 1 ∧ ∀ p, H p = none → Q (.ref p) (upd H p (.lst xs))
theorem perm_short {α : Type} {l m : List α} (h : l.Perm m) (hm : m.length ≤ 1) : l = m := by
  match m, hm with
  | [], _ => exact h.eq_nil
  | [x], _ => exact List.perm_singleton.mp h
theorem cr_sorted1 {X : Cx} : CallR X (.builtin "sorted") (rSorted1 X) := by
  intro pins s σ H vs us Q I r h
  obtain ⟨a, xs, rfl, hs, h1, q⟩ := h
  obtain ⟨its, rv, hl, hz⟩ := I.list hs
  rw [Vals.ref1 r]
  refine Srt.sorted_any hl.isList (by rw [← rv.length]; exact hz) (fun h2 => absurd h2 (by rw [← rv.length]; omega)) fun out hp => ?_
  have e := perm_short hp (by rw [← rv.length]; exact h1)
  subst e
  obtain ⟨n, hn⟩ := sortedAll_at s.heap out out.toArray
  exact ⟨.ref _, upd H _ (.lst xs), I.laid (t' := s.toks) (fun b o e => sortedAll_old e) (Nat.le_succ _) ⟨hz, out, n, rv, hn⟩, rfl, q _ (I.hok.fresh (Nat.le_succ _))⟩
section
variable {X : Cx} {C : Addr} {env : DEnv} {a b c e : Expr} {es : List Expr} {d x y z : PyData} {ds : List PyData} {sl : List Sl} {p pos p2 : Pos} {i j : Int} {n : Nat} {r : List (Nat × Nat)} {k : Nat}
theorem dn_sortedD {β : Type} (enc : β → PyData) (bs : List β) (T : Tp X.mg) (ha : DL X C env a (bs.map enc)) (hal : PySem.W.AllAlike (bs.map enc)) (hk : PySem.W.Sortable (bs.map enc)) (hu : ∀ b ∈ bs, X.A.units + 2 + (enc b).depth < cLine) (hg : Gl X "sorted" := by rfl) (he : starEach [a] X.env = (false, eval a X.env) :: starEach [] X.env := by rfl) :
    DN X C env (.Call (.Name "sorted" p) [a] [] pos) ((bs.mergeSort (PySem.W.dataLe false enc)).map enc) := .mk fun S Q q =>
  wE_of (pe_callB cr_sortedD hg T.sorted (by decide +kernel) (pa_cons (wE_pe a) pa_nil he) (he := he)) (ha.run S _ fun v xs G1 H1 g1 e1 r1 => ⟨v, G1, β, enc, bs, xs, rfl, SqL.of e1, g1.i, r1, hal, hk, hu, fun ys p h1 h2 => q p ys G1 H1 g1 h2 h1⟩)
theorem dn_sorted1 (T : Tp X.mg) (ha : DL X C env a ds) (h1 : ds.length ≤ 1) (hg : Gl X "sorted" := by rfl) (he : starEach [a] X.env = (false, eval a X.env) :: starEach [] X.env := by rfl) :
    DN X C env (.Call (.Name "sorted" p) [a] [] pos) ds := .mk fun S Q q =>
  wE_of (pe_callB cr_sorted1 hg T.sorted (by decide +kernel) (pa_cons (wE_pe a) pa_nil he) (he := he)) (ha.run S _ fun v xs G1 H1 g1 e1 r1 => ⟨v, xs, rfl, SqL.of e1, by rw [r1.length]; exact h1, fun p h2 => q p xs G1 H1 g1 h2 r1⟩)
end
end TD
namespace HT
open PySem PySem.Spec PyProof.Rows
section
variable {prog : Program} {w : World} {A : Around} {E : Value → Shared → Prop} {s : Shared}
theorem adjust_rev (n : Nat) : Builtin.Slice.sliceAdjust none none (-1) (n : Int) = ((n : Int) - 1, -1) := by
  unfold Builtin.Slice.sliceAdjust
  simp
theorem places_rev (n : Nat) : Builtin.Slice.slicePlaces ((n : Int) - 1) (-1) (-1) = n := by
  unfold Builtin.Slice.slicePlaces
  have h1 : ¬ ((-1 : Int) > 0) := by omega
  simp only [h1, if_false]
  split <;> simp <;> omega
theorem sliceApplied_rev {sl : Addr} {vl vu vs : Value} {n : Nat} {Q : Int × Int × Nat → Shared → Prop} (hs : s.heap.IsSliceOf sl vl vu vs) (pl : IsPart vl none) (pu : IsPart vu none) (ps : IsPart vs (some (-1)))
    (h : Q ((n : Int) - 1, -1, n) s) : wpAny (model prog w) A (Builtin.Slice.sliceApplied (.ref sl) (pure (n : Int))) Q E s := by
  obtain ⟨os, hos, hcs, hds⟩ := id hs
  unfold Builtin.Slice.sliceApplied Builtin.Slice.sliceFields
  refine wpAny_bind (wpAny_bind (wpAny_field hos hds (x := vl) rfl (wpAny_bind (wpAny_field hos hds (x := vu) rfl (wpAny_bind (wpAny_field hos hds (x := vs) rfl (wpAny_pure ?_)))))))
  refine wpAny_bind (slicePart_ ps ?_)
  show wpAny _ _ (if ((-1 : Int) == 0) = true then _ else _) _ _ s
  rw [if_neg (by decide)]
  refine wpAny_bind (slicePart_ pl (wpAny_bind (slicePart_ pu (wpAny_bind (wpAny_pure ?_)))))
  show wpAny _ _ (match Builtin.Slice.sliceAdjust none none (-1) (n : Int) with | (lo, hi) => pure (lo, (-1 : Int), Builtin.Slice.slicePlaces lo hi (-1))) _ _ s
  rw [adjust_rev n]
  show wpAny _ _ (pure ((n : Int) - 1, (-1 : Int), Builtin.Slice.slicePlaces ((n : Int) - 1) (-1) (-1))) _ _ s
  rw [places_rev]
  exact wpAny_pure h
theorem pick_rev (xs : Array Value) : ((List.range xs.size).filterMap fun (m : Nat) => xs[(((xs.size : Nat) : Int) - 1 + (m : Int) * (-1)).toNat]?).toArray = xs.toList.reverse.toArray := by
  have e : (List.range xs.size).filterMap (fun (m : Nat) => xs[(((xs.size : Nat) : Int) - 1 + (m : Int) * (-1)).toNat]?) = ((List.range xs.size).map fun k => xs.size - 1 - k).filterMap (xs[·]?) := by
    rw [List.filterMap_map]
    congr 1
    funext m
    have : (((xs.size : Nat) : Int) - 1 + (m : Int) * (-1)).toNat = xs.size - 1 - m := by omega
    rw [this]; rfl
  rw [e, PySem.W.krv_range, List.filterMap_reverse, PySem.W.krv_all]
theorem getItem_tuple_rev {t sl : Addr} {items : Array Value} {vl vu vs : Value} {Q : Value → Shared → Prop} (ht : IsTup s.heap t items) (hs : s.heap.IsSliceOf sl vl vu vs) (pl : IsPart vl none) (pu : IsPart vu none) (ps : IsPart vs (some (-1)))
    (h : Q (.ref s.heap.objs.size) { s with heap := s.heap.push { cls := .type "tuple", data := .seq items.toList.reverse.toArray } })
    (hsz : items.size ≤ sizeLine) : wpAny (model prog w) A (getItem (.ref t) (.ref sl)) Q E s := by
  have htake : sizeOk (.seq items.toList.reverse.toArray) := by
    show items.toList.reverse.toArray.size ≤ sizeLine
    rw [List.size_toArray, List.length_reverse, Array.length_toList]
    exact hsz
  obtain ⟨os, hos, hcs, hds⟩ := id hs
  have hTs : s.TypeIs (.ref sl) "slice" := ⟨os, hos, hcs⟩
  unfold getItem
  try with_reducible refine wpAny_holding ?_
  first | refine wpAny_bind (wpAny_pure ?_) | skip
  refine wpAny_bind (wpAny_sequenceKey ht.typeIs (by decide) ?_)
  refine wpAny_bind (wpAny_callSpecial?_slot (name := Str.ofString "__getitem__") ht.typeIs PyProof.Rows.slot_tuple_getitem
    (wpAny_call_entry PyProof.Rows.slot_tuple_getitem ht.typeIs entry_tuple_getitem ?_ (args_tuple_getitem _ _)))
  show wpAny _ _ (Builtin.Tuple.tupleItemsOf (.ref t) >>= _) _ _ s
  refine wpAny_bind (tupleItemsOf_ ht ?_)
  refine wpAny_bind (wpAny_typeOf hTs ?_)
  rw [if_pos (by decide)]
  refine wpAny_bind (sliceApplied_rev hs pl pu ps ?_)
  have hno : ¬ ((((items.size : Nat) : Int) - 1 == 0 && (-1 : Int) == 1 && items.size == items.size) = true) := by
    intro q
    rw [Bool.and_eq_true, Bool.and_eq_true] at q
    exact absurd q.1.2 (by decide)
  show wpAny _ _ (if ((((items.size : Nat) : Int) - 1 == 0 && (-1 : Int) == 1 && items.size == items.size) = true) then _ else _) _ _ s
  rw [if_neg hno, pick_rev]
  first
    | exact wpAny_bind (m := Builtin.Tuple.tupleExact _) (wpAny_newObj_type (wpAny_pure ⟨_, rfl, wpAny_pure h⟩) htake)
    | exact wpAny_bind (m := Builtin.Tuple.tupleExact _) (wpAny_newObj_type (wpAny_bind (wpAny_pure (wpAny_pure ⟨_, rfl, wpAny_pure h⟩))) htake)
    | exact wpAny_bind (wpAny_bind (m := Builtin.Tuple.tupleExact _) (wpAny_newObj_type (wpAny_pure (wpAny_pure ⟨_, rfl, wpAny_pure h⟩)) htake))
    | exact wpAny_bind (wpAny_bind (m := Builtin.Tuple.tupleExact _) (wpAny_newObj_type (wpAny_pure ⟨_, rfl, wpAny_pure h⟩) htake))
end
end HT
namespace TD
open PySem L2 PyProof.Rows
/-! xs[::-1] of a tuple -/
def tRevT (K : PySem.W.Frag) (te : TE) : TE := fun σ H Q => te σ H fun x H1 => ∃ a xs, x = .ref a ∧ SqT K H1 a xs ∧ ∀ p, H1 p = none → Q (.ref p) (upd H1 p (.tup xs.reverse))
theorem pe_revT {X : Cx} {e : Expr} {te : TE} {k : Nat} {p1 p2 p3 pos : Pos} (he : PE X e te) : PE X (.Subscript e (.Slice none none (some (.UnaryOp .USub (.Constant (.int 1) k p1) p2)) p3) pos) (tRevT X.K te) := by
  refine ⟨fun pins s σ H Q I h => ?_⟩
  refine Subscript_ (thn (he.run pins s σ H _ I h) fun v s1 ⟨x, H1, I1, r1, q1⟩ => ?_)
  obtain ⟨a, xs, ex, hx, q⟩ := q1
  subst ex
  cases r1
  have hst : PO X (some (.UnaryOp .USub (.Constant (.int 1) k p1) p2)) (tPart (tUn (rU fun i => .int (-i)) (tC (.int 1)))) := po_some (pe_un un_neg pe_int)
  refine wpAny_Slice (thn (po_none.run pins s1 σ H1 (fun o H2 => o = none ∧ H2 = H1) I1 ⟨rfl, rfl⟩) fun vl s2 ⟨l, H2, I2, pl, el, e2⟩ => ?_)
  subst el e2
  refine thn (po_none.run pins s2 σ H2 (fun o H3 => o = none ∧ H3 = H2) I2 ⟨rfl, rfl⟩) fun vu s3 ⟨u, H3, I3, pu, eu, e3⟩ => ?_
  subst eu e3
  refine thn (hst.run pins s3 σ H3 (fun o H4 => o = some (-1) ∧ H4 = H3) I3 ⟨1, rfl, -1, rfl, rfl, rfl⟩) fun vs s4 ⟨o, H4, I4, ps, eo, e4⟩ => ?_
  subst eo e4
  have I5 : Inv X pins σ H4 { s4 with heap := s4.heap.push { cls := .type "slice", data := .fields #[vl, vu, vs] } } := I4.kept (t' := s4.toks) fun b ob q => Heap.get?_push_of_some _ q
  obtain ⟨its, r, ht, hz⟩ := I5.tuple hx
  have hlen := r.length
  show wpAny (model X.prog X.w) X.A (subscriptTail e (.Slice none none (some (.UnaryOp .USub (.Constant (.int 1) k p1) p2)) p3) (.ref a) (.ref s4.heap.objs.size)) (EP X pins σ Q) X.xe { s4 with heap := s4.heap.push { cls := .type "slice", data := .fields #[vl, vu, vs] } }
  refine tail_any (ops := [.ref a, .ref s4.heap.objs.size]) ht.typeIs (PyProof.Rows.slot_tuple_getitem.lookup) ?_ (by with_unfolding_all rfl)
  refine HT.getItem_tuple_rev ht (Heap.IsSliceOf.new _ vl vu vs) pl pu ps ?_ (by rw [List.size_toArray]; omega)
  refine ⟨.ref _, _, I5.laid (t' := s4.toks) (o := .tup xs.reverse) (fun b ob q => Heap.get?_push_of_some _ q) (Nat.le_refl _) ?_, rfl, q _ (I5.hok.fresh (Nat.le_refl _))⟩
  exact ⟨by rw [List.length_reverse]; exact hz, _, r.reverse, IsTup.new ..⟩
section
variable {X : Cx} {C : Addr} {env : DEnv} {a : Expr} {d : PyData} {ds : List PyData} {p2 pos : Pos}
theorem de_revT {k : Nat} {p1 p3 : Pos} (ha : DE X C env a (.tuple ds)) : DE X C env (.Subscript a (.Slice none none (some (.UnaryOp .USub (.Constant (.int 1) k p1) p2)) p3) pos) (.tuple ds.reverse) := .mk fun S Q q =>
  wE_of (pe_revT (wE_pe a)) (ha.run S _ fun v G1 H1 g1 r1 => by
    cases r1 with
    | @tup a xs _ h1 h2 => exact ⟨_, _, rfl, SqT.of (g1.i _ _ h1), fun p hp => by
      have g2 := Gr.new (.tup xs.reverse) g1.i hp
      exact q _ _ _ (g1.trans g2) (.tup upd_same (h2.rev.mono g2.g))⟩)
end
end TD
namespace TD
open PySem L2 PyProof.Rows
/-! ### dicts with keys that are tuples of whole numbers -/
def lookD (kvs : List (List Int × PyData)) (k : List Int) : Option PyData := (kvs.find? fun p => decide (p.1 = k)).map (·.2)
def dIs (k : List Int) : PyData := .tuple (k.map .int)
theorem kInts_inj {a b : List Int} (h : kInts a = kInts b) : a = b := by
  unfold kInts at h
  exact (List.map_inj_right fun x y e => Sum.inl.inj e).mp h
theorem kInts_kV (k : List Int) : (kInts k).map kV = k.map V.int := by
  unfold kInts; rw [List.map_map]; rfl
theorem RpKV.look {G : Hp} {k : List Int} : ∀ {ks : List (List Key × V)} {kvs : List (List Int × PyData)}, RpKV G ks kvs → (valV ks (kInts k) = none ∧ lookD kvs k = none) ∨ ∃ v d, valV ks (kInts k) = some v ∧ lookD kvs k = some d ∧ Rp G v d
  | _, _, .nil => .inl ⟨rfl, rfl⟩
  | _, _, .cons (k := k') (v := v) (d := d) (r := r) (q := q) h t => by
    by_cases e : k' = k
    · subst e
      refine .inr ⟨v, d, ?_, ?_, h⟩
      · unfold valV; rw [List.find?_cons_of_pos (by simp)]; rfl
      · unfold lookD; rw [List.find?_cons_of_pos (by simp)]; rfl
    · have e1 : valV ((kInts k', v) :: r) (kInts k) = valV r (kInts k) := by
        unfold valV; rw [List.find?_cons_of_neg (by simpa using fun z => e (kInts_inj z))]
      have e2 : lookD ((k', d) :: q) k = lookD q k := by
        unfold lookD; rw [List.find?_cons_of_neg (by simpa using e)]
      rw [e1, e2]
      exact t.look
theorem RpKV.len {G : Hp} : ∀ {ks : List (List Key × V)} {kvs : List (List Int × PyData)}, RpKV G ks kvs → ks.length = kvs.length
  | _, _, .nil => rfl
  | _, _, .cons _ t => by rw [List.length_cons, List.length_cons, t.len]
theorem RpKV.keys {G : Hp} : ∀ {ks : List (List Key × V)} {kvs : List (List Int × PyData)}, RpKV G ks kvs → ks.map (·.1) = (kvs.map (·.1)).map kInts
  | _, _, .nil => rfl
  | _, _, .cons _ t => by rw [List.map_cons, List.map_cons, List.map_cons, t.keys]
theorem RpKV.snoc {G : Hp} {k : List Int} {v : V} {d : PyData} (h : Rp G v d) : ∀ {ks : List (List Key × V)} {kvs : List (List Int × PyData)}, RpKV G ks kvs → RpKV G (ks ++ [(kInts k, v)]) (kvs ++ [(k, d)])
  | _, _, .nil => .cons h .nil
  | _, _, .cons h' t => .cons h' (t.snoc h)
theorem putK_new {ks : List (List Key × V)} {k : List Key} {v : V} (h : valV ks k = none) : putK ks k v = ks ++ [(k, v)] := by
  unfold putK
  rw [if_neg]
  intro e
  unfold valV at h
  rw [Option.map_eq_none_iff, List.find?_eq_none] at h
  obtain ⟨x, hx, e⟩ := List.any_eq_true.mp e
  exact h x hx e
/-- a tuple of whole numbers as a key -/
theorem rp_key {H : Hp} {v : V} {k : List Int} (h : Rp H v (.tuple (k.map .int))) : ∃ b, v = .ref b ∧ H b = some (.tup ((kInts k).map kV)) := by
  cases h with
  | tup h1 h2 => exact ⟨_, rfl, by rw [h1, h2.ints, kInts_kV]⟩
/-- the tuples of H known -/
def withT (G H : Hp) : Hp := fun b => match G b with
  | some o => some o
  | none => match H b with
    | some (.tup xs) => some (.tup xs)
    | _ => none
theorem withT_gr {G H : Hp} (s : Same G H) : Gr G H (withT G H) H := by
  refine ⟨fun b o e => ?_, Same.refl _, fun b o e => ?_, fun b o e1 e2 e3 => ?_⟩
  · unfold withT; rw [e]
  · unfold withT at e
    cases q : G b with
    | some o' => rw [q] at e; cases e; exact s _ _ q
    | none =>
      rw [q] at e
      cases q2 : H b with
      | none => rw [q2] at e; cases e
      | some o' =>
        rw [q2] at e
        cases o' <;> first | (cases e; done) | (cases e; exact rfl)
  · unfold withT
    rw [e1, e2]
    cases o <;> first | rfl | cases e3
theorem withT_tup {G H : Hp} (s : Same G H) {b : Addr} {xs : List V} (h : H b = some (.tup xs)) : withT G H b = some (.tup xs) := by
  unfold withT
  cases q : G b with
  | some o => have := s _ _ q; rw [h] at this; cases this; rfl
  | none => rw [h]
/-- an expression that makes or reads a dict, unknown to G -/
structure DD (X : Cx) (C : Addr) (env : DEnv) (e : Expr) (kvs : List (List Int × PyData)) : Prop where
  run : ∀ {G0 H0 G H : Hp} {σ : L2.St}, St C G0 H0 G H σ env → ∀ Q : VK, (∀ a ks G' H', Gr G H G' H' → H a = none → G' a = none → H' a = some (.dT ks) → RpKV G' ks kvs → Q (.ref a) H') → wE X e σ H Q
/-! sorted of such a dict -/
theorem reads_ints {h : Heap} {v : Value} {k : List Int} {as : List Addr} (r : Reads h v (.tuple (k.map .int)) as) : as = [] := by
  have all : ∀ (l : List Int) (vs : List Value) (as : List Addr), ReadsAll h vs (l.map .int) as → as = [] := fun l => by
    induction l with
    | nil => intro vs as r; cases r; rfl
    | cons x l ih =>
      intro vs as r
      cases r with
      | cons r1 r2 => cases r1; rw [ih _ _ r2]; rfl
  cases r with
  | tuple _ _ _ ra => exact all _ _ _ ra
def rSortedDT (X : Cx) : List V → Hp → VK → Prop := fun vs H Q => ∃ (a : Addr) (kvs : List (List Key × V)) (ks : List (List Int)), vs = [.ref a] ∧ H a = some (.dT kvs) ∧ kvs.map (·.1) = ks.map kInts ∧ ((∀ k ∈ ks, k ≠ []) ∨ ks.length ≤ 1) ∧ X.A.units + 65 < cLine ∧
  ∀ bs p, PySem.W.EachIs (fun (b : Addr) k => H b = some (.tup (k.map V.int))) bs (ks.mergeSort (PySem.W.dataLe false dIs)) → H p = none → Q (.ref p) (upd H p (.lst (bs.map V.ref)))
theorem each_refs {H : Hp} : ∀ {out : List Value} {ks : List (List Int)}, PySem.W.EachIs (fun (v : Value) k => ∃ b, v = .ref b ∧ H b = some (.tup (k.map V.int))) out ks → ∃ bs : List Addr, out = bs.map Value.ref ∧ PySem.W.EachIs (fun (b : Addr) k => H b = some (.tup (k.map V.int))) bs ks
  | _, _, .nil => ⟨[], rfl, .nil⟩
  | _, _, .cons ⟨b, e, h⟩ t => let ⟨bs, e2, h2⟩ := each_refs t; ⟨b :: bs, by rw [e, e2]; rfl, .cons h h2⟩
theorem each_keys {H : Hp} : ∀ {kvs : List (List Key × V)} {xs : List (List Key × Addr × Value)} {ks : List (List Int)}, KT H kvs xs → kvs.map (·.1) = ks.map kInts → PySem.W.EachIs (fun (v : Value) k => ∃ b, v = .ref b ∧ H b = some (.tup (k.map V.int))) (xs.map fun x => Value.ref x.2.1) ks
  | _, _, [], .nil, _ => .nil
  | _, _, _ :: _, .nil, e => nomatch e
  | _, _, [], .cons _ _, e => nomatch e
  | _, _, k :: ks, .cons h t, e => by
    rw [List.map_cons, List.map_cons] at e
    obtain ⟨e1, e2⟩ := List.cons.inj e
    refine .cons ⟨_, rfl, ?_⟩ (each_keys t e2)
    rw [h.2.1, e1, kInts_kV]
theorem depth_dIs (k : List Int) : (dIs k).depth ≤ 1 := by
  have := PySem.W.depth_ints k
  unfold dIs
  rw [PyData.depth]
  omega
theorem cr_sortedDT {X : Cx} (hc : X.calm = true) : CallR X (.builtin "sorted") (rSortedDT X) := by
  intro pins s σ H vs us Q I r h
  obtain ⟨a, kvs, ks, rfl, hd, hkeys, hor, hu, q⟩ := h
  rw [Vals.ref1 r]
  obtain ⟨z, lo, xs, pr, o, es, ep, ho, hx, hdt, he, hn⟩ := (show ObjOk X.prog X.w H s.heap a (.dT kvs) from I.hok a _ hd)
  have l1 : es.size = xs.length := size_of_entries he
  have l2 : kvs.length = xs.length := Paired.length pr
  have l3 : kvs.length = ks.length := by
    have e := congrArg List.length hkeys
    rw [List.length_map, List.length_map] at e
    exact e
  refine Calls.call_function_entry kind_sorted plain_sorted entry_sorted (args_sorted1 _) ?_
  unfold Builtin.«sorted»
  refine wpAny_bind (m := checkCount "sorted" 1 1 _) (wpAny_pure ?_)
  refine wpAny_bind (PySem.W.kdu_collect (A := X.A.in1) (kdl_raw lo hx hdt) (I.ok.hd hc) ho (by omega) fun h' tk acc hk hacc => ?_)
  have ea : acc.toList = xs.map fun x => Value.ref x.2.1 := by
    have hl : acc.toList.length = xs.length := by rw [Array.length_toList, hacc.1]; exact l1
    apply List.ext_getElem?
    intro j
    rw [List.getElem?_map]
    cases hj : acc.toList[j]? with
    | none =>
      have h1 := List.getElem?_eq_none_iff.mp hj
      rw [List.getElem?_eq_none (by omega)]
      all_goals rfl
    | some v =>
      obtain ⟨en, hen, hv⟩ := hacc.2 j v (by rw [← Array.getElem?_toList]; exact hj)
      have qe := entry_at he j
      rw [hen] at qe
      cases hb : xs[j]? with
      | none =>
        rw [hb] at qe
        exact nomatch (show some en = none from qe)
      | some b =>
        rw [hb] at qe
        have e2 : en = entryOfKey (tupleKind (mixKind X.prog X.w)) b := Option.some.inj qe
        rw [hv, e2]
        all_goals rfl
  have hal : acc.toList.length = ks.length := by rw [Array.length_toList, hacc.1]; omega
  have hz : acc.toList.length ≤ sizeLine := by omega
  have I1 : Inv X pins σ H { s with heap := h', toks := tk } := I.kept hk
  have eR : PySem.W.EachIs (fun (v : Value) k => ∃ b, v = .ref b ∧ H b = some (.tup (k.map V.int))) acc.toList ks := by rw [ea]; exact each_keys pr hkeys
  refine wpAny_bind (wpAny_newList ?_ hz)
  have hoL : (h'.push (seqObj "list" acc.toList.toArray 0)).get? h'.objs.size = some (seqObj "list" acc.toList.toArray 0) := Heap.get?_push_size _ rfl
  show wpAny _ _ _ _ _ { s with heap := h'.push (seqObj "list" acc.toList.toArray 0), toks := tk }
  have fin : ∀ out : List Value, out.length = ks.length → PySem.W.EachIs (fun (v : Value) k => ∃ b, v = .ref b ∧ H b = some (.tup (k.map V.int))) out (ks.mergeSort (PySem.W.dataLe false dIs)) →
      ∃ y H2, Inv X pins σ H2 { s with heap := sortedHeap (h'.push (seqObj "list" acc.toList.toArray 0)) h'.objs.size acc.toList (List.toArray out), toks := tk } ∧ RelV y (.ref h'.objs.size) ∧ Q y H2 := fun out hol e => by
    obtain ⟨bs, rfl, hb⟩ := each_refs e
    obtain ⟨e', he'⟩ := PyProof.Rows.sortedHeap_at (vs := acc.toList) (out := (bs.map Value.ref).toArray) hoL
    rw [List.length_map] at hol
    refine ⟨.ref h'.objs.size, upd H h'.objs.size (.lst (bs.map V.ref)), I1.laid (t' := tk) (fun b u e => ?_) (Nat.le_refl _) (show ObjOk X.prog X.w _ _ _ (.lst (bs.map V.ref)) from ⟨by rw [List.length_map]; omega, bs.map Value.ref, e', vals_refs _, he'⟩), rfl, q bs _ hb (I1.hok.fresh (Nat.le_refl _))⟩
    have hb : b < h'.objs.size := Heap.lt_size e
    rw [PyProof.Rows.sortedHeap_old (Nat.ne_of_lt hb) (by rw [size_push']; exact Nat.lt_succ_of_lt hb)]
    exact Heap.get?_push_of_some _ e
  refine wpAny_bind (wpAny_holding ?_)
  rcases hor with hne | h1
  · have er : PySem.W.EachIs (fun (v : Value) k => ∃ as, Reads (h'.push (seqObj "list" acc.toList.toArray 0)) v (dIs k) as ∧ h'.objs.size ∉ as) acc.toList ks := by
      refine eR.mono fun v k ⟨b, e, hb⟩ => ?_
      have I2 : Inv X pins σ H { s with heap := h'.push (seqObj "list" acc.toList.toArray 0), toks := tk } := I1.kept (t' := tk) fun _ _ e => Heap.get?_push_of_some _ e
      have rp : Rp H (.ref b) (.tuple (k.map .int)) := .tup hb (RpAll.of_ints k)
      obtain ⟨as, hr⟩ := Dp.reads I2 _ _ v (rp.dp X.K) e
      exact ⟨as, hr, by rw [reads_ints hr]; exact List.not_mem_nil⟩
    refine PySem.W.list_sort_data (enc := dIs) (bs := ks) (s := { s with heap := h'.push (seqObj "list" acc.toList.toArray 0), toks := tk }) hoL eR er (PySem.W.AllAlike.of fun b b' => by unfold dIs; rw [PySem.W.alike]; exact PySem.W.alike_ints b b') ?_ (by omega) (fun b _ => ?_) fun out hol e => wpAny_pure ⟨_, rfl, fin out hol e⟩
    · refine .inl fun d hd => ?_
      obtain ⟨k, hk, rfl⟩ := List.mem_map.mp hd
      cases k with
      | nil => exact absurd rfl (hne _ hk)
      | cons x l => exact ⟨_, _, rfl⟩
    · have := depth_dIs b
      show X.A.units + 1 + 1 + _ < _
      omega
  · refine wpAny_call_entry PyProof.Rows.slot_list_sort ⟨_, hoL, rfl⟩ PyProof.Rows.entry_list_sort (Srt.list_sort_any (s := { s with heap := h'.push (seqObj "list" acc.toList.toArray 0), toks := tk }) hoL hz (fun h2 => absurd h2 (by omega)) fun out hp => ⟨_, rfl, wpAny_pure ⟨_, rfl, fin out (by rw [hp.length_eq]; exact hal) ?_⟩⟩) (PyProof.Rows.args_list_sort _)
    have e := perm_short hp (by omega)
    rw [e]
    have e2 : ks.mergeSort (PySem.W.dataLe false dIs) = ks := by
      match ks, h1 with
      | [], _ => exact List.mergeSort_nil
      | [k], _ => exact List.mergeSort_singleton k
    rw [e2]; exact eR
/-! {k: v} -/
def tDispT1 (tk tv : TE) : TE := fun σ H Q => ∀ p, H p = none → tk σ (upd H p (.dT [])) fun x H1 => tv σ H1 fun y H2 => H2 p = some (.dT []) ∧ ∃ b k, x = .ref b ∧ H2 b = some (.tup (k.map kV)) ∧ Q (.ref p) (upd H2 p (.dT [(k, y)]))
theorem pe_dispT1 {X : Cx} {k v : Expr} {tk tv : TE} {pos : Pos} (hu : X.A.units + 1 < cLine) (hk : PE X k tk) (hv : PE X v tv) : PE X (.Dict [some k] [v] pos) (tDispT1 tk tv) := by
  refine ⟨fun pins s σ H Q I q => ?_⟩
  have hn := I.hok.fresh (Nat.le_refl s.heap.objs.size)
  have I1 := I.laid (a := s.heap.objs.size) (o := .dT []) (h' := s.heap.push { cls := .type "dict", data := .dict #[] }) (t' := s.toks) (fun _ _ q => Heap.get?_push_of_some _ q) (Nat.le_refl _) (dt_empty s.heap I.big)
  rw [arm_eval_Dict, zip_pairTrees [some k] [v] X.env pos rfl rfl, dictDisplay_pairs (pairTrees [some k] [v] X.env pos) (fun e => nomatch e) (by rw [pairTrees_length [some k] [v] X.env pos rfl rfl]; exact Nat.le_of_ble_eq_true rfl)]
  refine wpAny_bind (wpAny_standAt (wpAny_bind (wpAny_subDictH (knd := tupleKind (mixKind X.prog X.w)) (Q := fun d s' => wpAny (model X.prog X.w) X.A (pure (Value.ref d)) (EP X pins σ Q) X.xe s') (show X.A.units < cLine by omega) (by rw [pairTrees_length [some k] [v] X.env pos rfl rfl]; exact Nat.le_of_ble_eq_true rfl) ?_)))
  refine pairTrees_cons_walk (thn (hk.run pins _ σ _ _ I1 (q _ hn)) fun u s1 ⟨x, H1, I1, rx, q1⟩ => thn (hv.run pins s1 σ H1 _ I1 q1) fun w2 s2 ⟨y, H2, I2, ry, hp, b, kk, ex, hb, q2⟩ => pairTrees_nil_walk ?_)
  subst ex
  obtain rfl : u = Value.ref b := rx
  obtain ⟨z, hd, xs, rel, dd⟩ := dt_of I2.hok hp
  cases rel
  refine ⟨[(kk, b, w2)], ⟨rfl, rfl, key_of I2.hok hb, trivial⟩, dd, fun h' tk dd' hs => wpAny_pure ⟨.ref s.heap.objs.size, _, ?_, rfl, q2⟩⟩
  obtain ⟨qo, es, ep, hq, h2, h3, h4, _, h5⟩ := dd'
  have hnb : b ≠ s.heap.objs.size := fun z => by rw [z, hp] at hb; cases hb
  refine d_write (t' := tk) I2 (by rw [hp]; exact True.intro) hs ⟨qo, hq⟩ ⟨by rw [sizeLine_eq]; exact Nat.le_of_ble_eq_true rfl, hd, [(kk, b, w2)], .cons ⟨rfl, by rw [upd_ne hnb]; exact hb, ry⟩ .nil, qo, es, ep, hq, h2, h3, h4, h5⟩
def rDNotIn : R2 := fun y x H Q => ∃ a o, x = .ref a ∧ DGet H a y o ∧ Q (.bl (!o.isSome)) H
theorem op_dnotin {X : Cx} (hu : X.A.units + 1 < cLine) : OpR X (compareOp .NotIn) rDNotIn := by
  intro pins s σ H x y v u Q I rx ry h
  obtain ⟨a, o, rfl, g, q⟩ := h
  obtain rfl : u = Value.ref a := ry
  exact d_notIn hu I g rx fun s3 I3 => ⟨.bl (!o.isSome), H, I3, rfl, q⟩
section
variable {X : Cx} {C : Addr} {N ps : List Str} {sc : Scope} {env env1 env2 : DEnv} {st : Stmt} {rest body : List Stmt} {D : DEnds} {a b e tg : Expr} {d : PyData} {ds es : List PyData} {pos p p2 p3 : Pos} {vs : List Nat} {n : Nat} {r : List (Nat × Nat)} {x y : Str} {kvs : List (List Int × PyData)} {k : List Int}
theorem dn_sortedDT (T : Tp X.mg) (hc : X.calm = true) (hu : X.A.units + 65 < cLine) (ha : DD X C env a kvs) (hne : (∀ k ∈ kvs.map (·.1), k ≠ []) ∨ (kvs.map (·.1)).length ≤ 1) (hg : Gl X "sorted" := by rfl) (he : starEach [a] X.env = (false, eval a X.env) :: starEach [] X.env := by rfl) :
    DN X C env (.Call (.Name "sorted" p) [a] [] pos) (((kvs.map (·.1)).mergeSort (PySem.W.dataLe false dIs)).map dIs) := .mk fun S Q q =>
  wE_of (pe_callB (cr_sortedDT hc) hg T.sorted (by decide +kernel) (pa_cons (wE_pe a) pa_nil he) (he := he)) (ha.run S _ fun v ks G1 H1 g1 _ _ e1 r1 => ⟨v, ks, kvs.map (·.1), rfl, e1, r1.keys, hne, hu, fun bs p hb hp => by
    have all : ∀ (bs : List Addr) (ks : List (List Int)), PySem.W.EachIs (fun (b : Addr) k => H1 b = some (.tup (k.map V.int))) bs ks → RpAll (withT G1 H1) (bs.map V.ref) (ks.map dIs) := fun bs ks h => by
      induction h with
      | nil => exact .nil
      | cons h _ ih => exact .cons (.tup (withT_tup g1.i h) (RpAll.of_ints _)) ih
    exact q p _ _ H1 (g1.trans (withT_gr g1.i)) hp (all _ _ hb)⟩)
theorem dd_disp (hu : X.A.units + 1 < cLine) (ha : DE X C env a (.tuple (k.map .int))) (hb : DE X C env b d) : DD X C env (.Dict [some a] [b] pos) [(k, d)] := .mk fun S Q q =>
  wE_of (pe_dispT1 hu (wE_pe a) (wE_pe b)) fun p hp => by
    have g0 := Gr.mut (.dT []) S.same hp
    refine ha.run (S.grow g0) _ fun v G1 H1 g1 r1 => hb.run (S.grow (g0.trans g1)) _ fun w G2 H2 g2 r2 => ?_
    have g := g0.trans (g1.trans g2)
    have hp2 : H2 p = some (.dT []) := (g1.trans g2).h _ _ upd_same
    have hpG : G2 p = none := (g1.trans g2).n p _ (S.same.free hp) upd_same rfl
    obtain ⟨b, rfl, hb⟩ := rp_key r1
    refine ⟨hp2, b, kInts k, rfl, g2.i _ _ (g2.g _ _ hb), q p _ G2 _ ⟨g.g, fun c u z => ?_, fun c u z => ?_, fun c o e1 e2 e3 => ?_⟩ hp hpG upd_same (.cons r2 .nil)⟩
    · rw [upd_ne (ne_of_none z hp)]; exact g.h _ _ z
    · rw [upd_ne (ne_of_none z hpG)]; exact g.i _ _ z
    · exact g.n c o e1 e2 e3
/-- a new dict gets its slot -/
theorem St.putDi {G0 H0 G H G' H' : Hp} {σ : L2.St} (S : St C G0 H0 G H σ env) {i : Nat} {a : Addr} {ks : List (List Key × V)} (hi : i < env.length) (g : Gr G H G' H') (h0 : H a = none) (hG : G' a = none) (hH : H' a = some (.dT ks)) (r : RpKV G' ks kvs) :
    St C G0 H0 G' H' (σ.set i (some (.ref a))) (env.set i (.di kvs)) := by
  have gd : Gr G H G' (del H' a) := ⟨g.g, fun b u z => by rw [del_ne (ne_of_none z h0)]; exact g.h b u z, fun b u z => by rw [del_ne (ne_of_none z hG)]; exact g.i b u z, g.n⟩
  have S2 := (S.grow gd).putMu hi del_same (o := .dT ks) (e := .di kvs) ⟨a, ks, rfl, upd_same, hG, r⟩
  rw [del_upd hH] at S2
  exact S2
theorem ds_parDV {px py pt : Pos} {kt k2 : Nat} {pt2 : Pos} (s t : Nat) (ha : DD X C env a kvs) (hb : DE X C env b d) (h : D.nx ((env.set s (.di kvs)).set t (.v d))) (hc : X.calm = true) (hN : X.N.Nodup) (hi : s < env.length := by exact Nat.le_of_ble_eq_true rfl) (hj : t < env.length := by exact Nat.le_of_ble_eq_true rfl) (hij : s ≠ t := by decide)
    (hx : X.N[s]? = some x := by rfl) (hy : X.N[t]? = some y := by rfl) (hlx : X.env.scope.names.lookup x = some .local := by rfl) (hly : X.env.scope.names.lookup y = some .local := by rfl)
    (hw : swappedStores [.Tuple [.Name x px, .Name y py] kt pt] (.Tuple [a, b] k2 pt2) X.env = pure (some [x, y]) := by rfl) (hs : swapsWithSole [.Tuple [.Name x px, .Name y py] kt pt] (.Tuple [a, b] k2 pt2) pos.line X.env = pure false := by rfl)
    (he : starEach [a, b] X.env = (false, eval a X.env) :: starEach [b] X.env := by rfl) (he2 : starEach [b] X.env = (false, eval b X.env) :: starEach [] X.env := by rfl) :
    DS X C (.Assign [.Tuple [.Name x px, .Name y py] kt pt] (.Tuple [a, b] k2 pt2) pos) env D := .mk fun S E q =>
  wS_of (ps_par hc hN hx hy hij hlx hly (pa_cons (wE_pe a) (pa_cons (wE_pe b) pa_nil he2) he) hw hs)
    (ha.run S _ fun p ks G1 H1 g1 h0 hG hH r1 => by
      have gd : Gr _ _ G1 (del H1 p) := ⟨g1.g, fun b u z => by rw [del_ne (ne_of_none z h0)]; exact g1.h b u z, fun b u z => by rw [del_ne (ne_of_none z hG)]; exact g1.i b u z, g1.n⟩
      have Sd := S.grow gd
      have nm : NoMu _ env p := Sd.noMu del_same
      have S1 : St C _ _ G1 H1 _ env := S.grow g1
      have Sw := S1.wide nm hH hG
      refine hb.run Sw _ fun w G2 H2 g2 r2 => ⟨.ref p, w, rfl, ?_⟩
      have S2 := (S.putDi hi (g1.trans g2) h0 (g2.n p _ hG hH rfl) (g2.h _ _ hH) (r1.mono g2.g)).put (i := t) (e := .v d) (by rw [List.length_set]; exact hj) rfl ⟨w, rfl, r2⟩
      exact q.nx _ _ _ _ (g1.trans g2).g S2 h)
theorem dc_notinD (hu : X.A.units + 1 < cLine) (s : Nat) (he : env[s]? = some (.di kvs)) (ha : DE X C env a (.tuple (k.map .int))) (hN : X.N[s]? = some x := by rfl) (hv : Vis X.env.scope x := by first | exact Or.inl rfl | exact Or.inr (Or.inl rfl) | exact Or.inr (Or.inr rfl))
    (hd : (x == ("__debug__" : Str)) = false := by decide) (hcd : (x == ("__classdict__" : Str)) = false := by decide) (hm : behindInMarks .NotIn (.Name x p) = false := by with_unfolding_all rfl) : DC X C env a .NotIn (.Name x p) (!(lookD kvs k).isSome) := by
  refine ⟨rDNotIn, op_dnotin hu, hm, fun S Q q => ?_⟩
  refine ha.run S _ fun v G1 H1 g1 r1 => ?_
  obtain ⟨c, ks, k1, k2, k3, k4⟩ := (S.grow g1).di he
  refine wE_of (pe_var hN hv hd hcd) ⟨_, k1, ?_⟩
  obtain ⟨b, rfl, hb⟩ := rp_key r1
  refine ⟨c, valV ks (kInts k), rfl, DGet.t k2 (g1.i _ _ hb), ?_⟩
  have e : (valV ks (kInts k)).isSome = (lookD kvs k).isSome := by
    rcases k4.look (k := k) with ⟨e1, e2⟩ | ⟨_, _, e1, e2, _⟩ <;> rw [e1, e2] <;> rfl
  rw [e]
  exact q G1 H1 g1
theorem de_getD (hu : X.A.units + 1 < cLine) (s : Nat) (he : env[s]? = some (.di kvs)) (ha : DE X C env a (.tuple (k.map .int))) (hl : lookD kvs k = some d) (hN : X.N[s]? = some x := by rfl) (hv : Vis X.env.scope x := by first | exact Or.inl rfl | exact Or.inr (Or.inl rfl) | exact Or.inr (Or.inr rfl))
    (hd : (x == ("__debug__" : Str)) = false := by decide) (hcd : (x == ("__classdict__" : Str)) = false := by decide) (hs : NoSl a := by intro _ _; rfl) : DE X C env (.Subscript (.Name x p) a pos) d := .mk fun S Q q => by
  obtain ⟨c, ks, k1, k2, k3, k4⟩ := S.di he
  refine wE_of (pe_dget hu (pe_var hN hv hd hcd) (wE_pe a) hs) ⟨_, k1, ha.run S _ fun v G1 H1 g1 r1 => ?_⟩
  obtain ⟨b, rfl, hb⟩ := rp_key r1
  rcases (k4.mono g1.g).look (k := k) with ⟨e1, e2⟩ | ⟨w, d', e1, e2, rw'⟩
  · rw [hl] at e2; cases e2
  · rw [hl] at e2; cases e2
    refine ⟨c, w, rfl, ?_, q w G1 H1 g1 rw'⟩
    have := DGet.t (a := c) (k := kInts k) (g1.h _ _ k2) (g1.i _ _ hb)
    rw [e1] at this
    exact this
theorem ds_putD (hu : X.A.units + 1 < cLine) (s : Nat) (hm : env[s]? = some (.di kvs)) (ha : DE X C env a (.tuple (k.map .int))) (he : DE X C env e d) (hl : lookD kvs k = none) (hz : kvs.length < 10000000) (h : D.nx (env.set s (.di (kvs ++ [(k, d)])))) (hN : X.N[s]? = some x := by rfl) (hv : Vis X.env.scope x := by first | exact Or.inl rfl | exact Or.inr (Or.inl rfl) | exact Or.inr (Or.inr rfl))
    (hd : (x == ("__debug__" : Str)) = false := by decide) (hcd : (x == ("__classdict__" : Str)) = false := by decide) (hs : swapsWith e (some (.Subscript (.Name x p) a p2)) pos.line X.env = pure false := by rfl) : DS X C (.Assign [.Subscript (.Name x p) a p2] e pos) env D := .mk fun S E q => by
  obtain ⟨c, ks, k1, k2, k3, k4⟩ := S.di hm
  have hs' : s < env.length := (List.getElem?_eq_some_iff.mp hm).1
  refine wS_of (ps_dput hu (pe_var hN hv hd hcd) (wE_pe a) (wE_pe e) hs) (he.run S _ fun w G1 H1 g1 r1 => ⟨_, k1, ha.run (S.grow g1) _ fun v G2 H2 g2 r2 => ?_⟩)
  obtain ⟨b, rfl, hb⟩ := rp_key r2
  have g := g1.trans g2
  have hG := g.n c _ k3 k2 rfl
  have e0 : valV ks (kInts k) = none := by
    rcases k4.look (k := k) with ⟨e1, _⟩ | ⟨_, _, _, e2, _⟩
    · exact e1
    · rw [hl] at e2; cases e2
  refine ⟨c, _, rfl, DPut.t (v := w) (g.h _ _ k2) (g2.i _ _ hb) (by rw [k4.len, sizeLine_eq]; omega), ?_⟩
  rw [putK_new e0]
  exact q.nx _ _ _ _ g.g ((S.grow g).change (e := .di _) hs' ⟨_, hm, rfl⟩ rfl k1 hG (by rw [g.h _ _ k2]; simp) ⟨c, _, rfl, upd_same, hG, (k4.mono g.g).snoc (r1.mono g2.g)⟩) h
theorem ds_retD (s : Nat) (hm : env[s]? = some (.di kvs)) (h : ∀ H0 G' H' a ks, H0 a = none → G' a = none → H' a = some (.dT ks) → RpKV G' ks kvs → D.rx H0 G' H' (.ref a)) (hN : X.N[s]? = some x := by rfl) (hv : Vis X.env.scope x := by first | exact Or.inl rfl | exact Or.inr (Or.inl rfl) | exact Or.inr (Or.inr rfl))
    (hd : (x == ("__debug__" : Str)) = false := by decide) (hcd : (x == ("__classdict__" : Str)) = false := by decide) : DS X C (.Return (some (.Name x p)) pos) env D := .mk fun S E q => by
  obtain ⟨c, ks, k1, k2, k3, k4⟩ := S.di hm
  exact wS_of (ps_ret (pe_var hN hv hd hcd)) ⟨_, k1, q.rx _ _ _ S.gr (h _ _ _ c ks (S.fr s c ⟨_, hm, rfl⟩ k1) k3 k2 k4)⟩
/-! calls of defs that make a dict -/
def spDD (C : Addr) (R : List Sl → List (List Int × PyData) → Prop) : Sp := fun vs H Q _ => ∃ (G : Hp) (sl : List Sl) (kvs : List (List Int × PyData)), Same G H ∧ ArgsOk C G vs sl ∧ R sl kvs ∧ ∀ a ks G' H', Gr G H G' H' → H a = none → G' a = none → H' a = some (.dT ks) → RpKV G' ks kvs → Q (.ref a) H'
structure DFnD (P : Program) (w : World) (K : PySem.W.Frag) (mg : Str → Option Value) (base : Heap) (C : Addr) (x : Str) (k : Nat) (R : List Sl → List (List Int × PyData) → Prop) : Prop where
  ex : ∃ f fd ps, FnOk P w K mg base CX0 k f fd ps (spDD C R) ∧ mg x = some (.ref f) ∧ PySem.W.keepIn K (.ref f) = true ∧ Binds K fd ps []
theorem dd_call {x : Str} {k : Nat} {sl : List Sl} {es : List Expr} {R : List Sl → List (List Int × PyData) → Prop} (F : DFnD X.prog X.w X.K X.mg X.base C x k R) (hr : Room k X.A) (ha : DAs X C env (e :: es) sl) (hR : R sl kvs) (hg : Gl X x := by rfl)
    (hdb : (x == ("__debug__" : Str)) = false := by decide) (he : starEach (e :: es) X.env = (false, eval e X.env) :: starEach es X.env := by rfl) (hpl : (backTo pos (starEach es X.env)).any (·.1) = false := by rfl) :
    DD X C env (.Call (.Name x p) (e :: es) [] pos) kvs := .mk fun S Q q => by
  obtain ⟨f, fd, ps, F, hm, hk, hb⟩ := F.ex
  refine wE_of (pe_call F hr hg hm hk hb .nil pass0 (wA_pa _) hdb he hpl) (ha.run S _ fun vs G1 H1 g1 r1 => ?_)
  rw [List.append_nil]
  exact ⟨G1, sl, kvs, g1.i, r1, hR, fun a ks G2 H2 g2 h0 h1 h2 h3 => q a ks G2 H2 (g1.trans g2) (g1.h.free h0) h1 h2 h3⟩
theorem mkFnD {P : Program} {w : World} {K : PySem.W.Frag} {mg : Str → Option Value} {base : Heap} {C : Addr} {x qual : Str} {st : Stmt} {f : Addr} {fd : FuncData} {N ps : List Str} {k : Nat} {R : List Sl → List (List Int × PyData) → Prop} (F : Fun K x qual st f fd) (S : FnScope N ps (defScope st)) (len : ∀ sl d, R sl d → sl.length = ps.length)
    (body : ∀ (cdv : Value) (A : Around) (outer : List Env) (s : Shared) (H : Hp) (E : XK), Room k (A.deeper (PyProof.Rows.envOfC qual (defScope st) s.heap.objs.size f cdv)) → ∀ sl kvs, R sl kvs →
      DB (cxOf CX0 P w K mg base N qual (defScope st) f cdv A outer s H E).nox C (defBody st) (startD N sl) { nx := fun _ => False, rt := fun _ _ => False, rx := fun H0 G' H' v => ∃ a ks, v = .ref a ∧ H0 a = none ∧ G' a = none ∧ H' a = some (.dT ks) ∧ RpKV G' ks kvs }) : FnOk P w K mg base CX0 (k + 1) f fd ps (spDD C R) := by
  refine F.ok S (fun vs H Q E h => ?_) (fun cdv A outer s H vs Q E hr h => ?_)
  · obtain ⟨G, sl, d, _, ha, hR, _⟩ := h
    rw [args_len ha]; exact len sl d hR
  · obtain ⟨G, sl, d, hs, ha, hR, q⟩ := h
    refine ⟨_, wSs_pss _, (body cdv A outer s H E hr sl d hR).run (st_start hs ha) _ ⟨fun _ _ _ _ _ _ z => z.elim, fun _ _ _ _ _ _ _ _ _ z => z.elim, fun _ _ _ _ _ _ z => z.elim, fun _ _ _ _ _ _ z => z.elim, fun G' H' v g ⟨a, ks, ev, h0, h1, h2, h3⟩ => ?_⟩⟩
    subst ev
    exact q a ks G' H' g h0 h1 h2 h3
/-- d.get(k, None) -/
theorem de_getD2 {apos : Pos} {kc : Nat} {pc : Pos} (hu : X.A.units + 1 < cLine) (ha : DD X C env a kvs) (hk : DE X C env b (.tuple (k.map .int))) (m : M2 X a "get" apos b (.Constant .none kc pc) pos := by exact ⟨by rfl, by rfl, by rfl, by rfl⟩) : DE X C env (.Call (.Attribute a "get" apos) [b, .Constant .none kc pc] [] pos) ((lookD kvs k).getD .none) := .mk fun S Q q => by
  refine wE_of (pe_dget2 hu (wE_pe a) (wE_pe b) pe_non m) (ha.run S _ fun p ks G1 H1 g1 h0 hG hH r1 => ⟨p, rfl, .inr ⟨ks, .inl hH⟩, hk.run (S.grow g1) _ fun v G2 H2 g2 r2 => ?_⟩)
  obtain ⟨c, rfl, hb⟩ := rp_key r2
  refine ⟨valV ks (kInts k), DGet.t (g2.h _ _ hH) (g2.i _ _ hb), ?_⟩
  rcases (r1.mono g2.g).look (k := k) with ⟨e1, e2⟩ | ⟨w, d', e1, e2, rw'⟩
  · rw [e1]; exact q _ G2 H2 (g1.trans g2) (by rw [e2]; exact .non)
  · rw [e1]; exact q _ G2 H2 (g1.trans g2) (by rw [e2]; exact rw')
end
end TD
namespace TD
open PySem L2 PyProof.Rows
/-! ### max of a tuple of whole numbers; its place -/
def rMaxT (X : Cx) : List V → Hp → VK → Prop := fun vs H Q => ∃ (a : Addr) (n : Int) (ns : List Int), vs = [.ref a] ∧ SqT X.K H a ((n :: ns).map V.int) ∧ X.A.units + 2 < cLine ∧ Q (.int (ns.foldl max n)) H
theorem cr_maxT {X : Cx} (hc : X.calm = true) : CallR X (.builtin "max") (rMaxT X) := by
  intro pins s σ H vs us Q I r h
  obtain ⟨a, n, ns, rfl, hs, hu, q⟩ := h
  rw [Vals.ref1 r]
  obtain ⟨its, rv, ⟨o, ho, hc', m, hd⟩, _⟩ := I.tuple hs
  have all : ∀ (l : List Int), DpAll X.K H (l.map V.int) (l.map .int) := fun l => (RpAll.of_ints l).dp X.K
  obtain ⟨as, hr⟩ := Dp.readsAll I _ _ _ (all (n :: ns)) rv
  refine PySem.W.max_tuple_data (x := .int n) (xs := ns.map .int) (I.ok.hd hc) ⟨o, ho, hc', m, hd⟩ hr ⟨fun x hx y hy => ?_, fun x hx => ?_⟩ ?_ fun i v h' tk bs _ rd hk => ?_
  · rw [← List.map_cons] at hx hy
    obtain ⟨_, _, rfl⟩ := List.mem_map.mp hx
    obtain ⟨_, _, rfl⟩ := List.mem_map.mp hy
    simp [PySem.W.alike]
  · rw [← List.map_cons] at hx
    obtain ⟨_, _, rfl⟩ := List.mem_map.mp hx
    exact fun z => nomatch z
  · have := PySem.W.depth_ints (n :: ns)
    rw [List.map_cons] at this
    omega
  · rw [PySem.W.maxD_ints] at rd
    cases rd
    exact ⟨.int _, H, I.kept hk, ⟨_, rfl⟩, q⟩
theorem mt_tup_indexI {X : Cx} : MtR X "tuple.index" (fun x xs H Q => ∃ p, ∃ ys : List Int, ∃ z j, x = .ref p ∧ xs = [.int z] ∧ SqT X.K H p (ys.map V.int) ∧ ys[j]? = some z ∧ (∀ m, m < j → ys[m]? ≠ some z) ∧ Q (.int (j : Nat)) H) := by
  intro pins s σ H x xs v us Q I rx rs h
  obtain ⟨p, ys, z, j, rfl, rfl, hq, hy, hno, q⟩ := h
  cases rx
  obtain ⟨u, rfl, t, rfl⟩ := vals1 rs
  obtain ⟨its, r, pl, hz⟩ := I.tuple hq
  obtain ⟨⟨cls, dd, dt, sl⟩, ho, hc, n, hd⟩ := pl
  simp only at hc hd
  subst hc
  subst hd
  have hl : its.toArray.size = ys.length := by rw [List.size_toArray, ← r.length, List.length_map]
  have hj : j < its.toArray.size := by rw [hl]; exact (List.getElem?_eq_some_iff.mp hy).1
  have at' : ∀ (m : Nat) (hm : m < its.toArray.size), ∃ y t', ys[m]? = some y ∧ its.toArray[m] = Value.int y t' := fun m hm => by
    have hm' : m < ys.length := by rw [← hl]; exact hm
    obtain ⟨w, hw, t', hw'⟩ := r.get (i := m) (x := .int ys[m]) (by simp [hm'])
    refine ⟨ys[m], t', List.getElem?_eq_getElem hm', ?_⟩
    have e := (List.getElem?_eq_some_iff.mp hw).2
    rw [← hw', ← e]
    simp
  refine call_meets PySem.F.slot_tuple_index ⟨_, ho, rfl⟩ PySem.F.entry_tuple_index (PySem.F.args_tuple_index_2 _ _) (TI.tuple_indexAt p its.toArray n dd sl (.int z t) (eqU (.int z)) j hj ?_ ?_)
    ⟨ho, fun w hw => mem_eqAt (x := .int z) ⟨t, rfl⟩ rfl r (flat_ints ys) w (by simpa using hw), ⟨.int (j : Nat), H, I.tok _, ⟨_, rfl⟩, q⟩⟩
  · obtain ⟨y, t', h1, h2⟩ := at' j hj
    rw [hy] at h1
    cases h1
    rw [h2]
    show (z == z) = true
    exact beq_self_eq_true z
  · intro m hm hmj
    obtain ⟨y, t', h1, h2⟩ := at' m hm
    rw [h2]
    show (y == z) = false
    exact beq_eq_false_iff_ne.mpr fun e => hno m hmj (e ▸ h1)
theorem foldl_max_mem : ∀ (ns : List Int) (n : Int), ns.foldl max n ∈ n :: ns
  | [], n => List.mem_cons_self
  | m :: ns, n => by
    rw [List.foldl_cons]
    have h := foldl_max_mem ns (max n m)
    rcases List.mem_cons.mp h with e | h
    · rw [e]
      rcases Int.le_total n m with q | q
      · rw [Int.max_eq_right q]; simp
      · rw [Int.max_eq_left q]; simp
    · exact List.mem_cons_of_mem _ (List.mem_cons_of_mem _ h)
theorem foldl_max_le : ∀ (ns : List Int) (n : Int), ∀ y ∈ n :: ns, y ≤ ns.foldl max n
  | [], n, y, h => by rw [List.mem_singleton.mp h]; exact Int.le_refl _
  | m :: ns, n, y, h => by
    rw [List.foldl_cons]
    have q := foldl_max_le ns (max n m)
    rcases List.mem_cons.mp h with e | h
    · have := q _ List.mem_cons_self; omega
    · rcases List.mem_cons.mp h with e | h
      · have := q _ List.mem_cons_self; omega
      · exact q _ (List.mem_cons_of_mem _ h)
section
variable {X : Cx} {C : Addr} {env : DEnv} {a b : Expr} {p pos apos : Pos} {i : Int}
theorem de_maxT {ns : List Int} (T : Tp X.mg) (hc : X.calm = true) (hu : X.A.units + 2 < cLine) (ha : DE X C env a (.tuple (ns.map .int))) (hm : i ∈ ns) (hl : ∀ y ∈ ns, y ≤ i) (hg : Gl X "max" := by rfl) (he : starEach [a] X.env = (false, eval a X.env) :: starEach [] X.env := by rfl) : DE X C env (.Call (.Name "max" p) [a] [] pos) (.int i) := .mk fun S Q q =>
  wE_of (pe_callB (cr_maxT hc) hg T.max (by decide +kernel) (pa_cons (wE_pe a) pa_nil he) (he := he)) (ha.run S _ fun v G1 H1 g1 r1 => by
    cases ns with
    | nil => cases hm
    | cons n ns =>
      cases r1 with
      | @tup a xs _ h1 h2 =>
        have e : i = ns.foldl max n := Int.le_antisymm (foldl_max_le ns n i hm) (hl _ (foldl_max_mem ns n))
        rw [e] at q
        exact ⟨a, n, ns, rfl, by rw [← h2.ints]; exact SqT.of (g1.i _ _ h1), hu, q _ _ _ g1 (.int _)⟩)
/-! ### a tuple of whole numbers that is known to the object -/
def FzAt (G : Hp) (a : Addr) (ns : List Int) : Prop := ∃ o, o.dict = none ∧ G a = some (.frz o (.tup (ns.map V.int)))
theorem FzAt.mono {G H : Hp} {a : Addr} {ns : List Int} (h : FzAt G a ns) (s : Same G H) : FzAt H a ns := let ⟨o, h1, h2⟩ := h; ⟨o, h1, s _ _ h2⟩
theorem FzAt.seq {G : Hp} {a : Addr} {ns : List Int} {K : PySem.W.Frag} (h : FzAt G a ns) : SqT K G a (ns.map V.int) := let ⟨o, _, h2⟩ := h; .inl (.inr ⟨o, h2⟩)
structure DF (X : Cx) (C : Addr) (env : DEnv) (e : Expr) (ns : List Int) : Prop where
  run : ∀ {G0 H0 G H : Hp} {σ : L2.St}, St C G0 H0 G H σ env → ∀ Q : VK, (∀ a G' H', Gr G H G' H' → FzAt G' a ns → Q (.ref a) H') → wE X e σ H Q
theorem df_name {x : Str} {ns : List Int} (s : Nat) (he : env[s]? = some (.fz ns) := by rfl) (hN : X.N[s]? = some x := by rfl) (hv : Vis X.env.scope x := by first | exact Or.inl rfl | exact Or.inr (Or.inl rfl) | exact Or.inr (Or.inr rfl))
    (hd : (x == ("__debug__" : Str)) = false := by decide) (hcd : (x == ("__classdict__" : Str)) = false := by decide) : DF X C env (.Name x p) ns := .mk fun S Q q => by
  obtain ⟨a, o, k1, k2, k3⟩ := S.fz he
  exact wE_of (pe_var hN hv hd hcd) ⟨_, k1, q a _ _ S.refl ⟨o, k2, k3⟩⟩
theorem de_ixF {ns : List Int} {j : Nat} (ha : DF X C env a ns) (hb : DE X C env b (dI j)) (hj : ns[j]? = some i) (hs : PlainIx b := by intro _ _; rfl) : DE X C env (.Subscript a b pos) (.int i) := .mk fun S Q q =>
  wE_of (pe_ix ix_tup (wE_pe a) (wE_pe b) hs) (ha.run S _ fun v G1 H1 g1 r1 => hb.run (S.grow g1) _ fun w G2 H2 g2 r2 => by
    cases r2
    exact ⟨v, _, _, _, rfl, rfl, (r1.mono (g2.g.trans g2.i)).seq, atI_nat (by rw [List.getElem?_map, hj]; rfl), q _ _ _ (g1.trans g2) (.int _)⟩)
theorem de_maxF {ns : List Int} (T : Tp X.mg) (hc : X.calm = true) (hu : X.A.units + 2 < cLine) (ha : DF X C env a ns) (hm : i ∈ ns) (hl : ∀ y ∈ ns, y ≤ i) (hg : Gl X "max" := by rfl) (he : starEach [a] X.env = (false, eval a X.env) :: starEach [] X.env := by rfl) : DE X C env (.Call (.Name "max" p) [a] [] pos) (.int i) := .mk fun S Q q =>
  wE_of (pe_callB (cr_maxT hc) hg T.max (by decide +kernel) (pa_cons (wE_pe a) pa_nil he) (he := he)) (ha.run S _ fun v G1 H1 g1 r1 => by
    cases ns with
    | nil => cases hm
    | cons n ns =>
      have e : i = ns.foldl max n := Int.le_antisymm (foldl_max_le ns n i hm) (hl _ (foldl_max_mem ns n))
      rw [e] at q
      exact ⟨v, n, ns, rfl, (r1.mono g1.i).seq, hu, q _ _ _ g1 (.int _)⟩)
def tIdxF (X : Cx) (to : TE) (t : TA) : TE := fun σ H Q => to σ H fun x H1 => ∃ a ns, x = .ref a ∧ FzAt H1 a ns ∧ t σ H1 fun xs H2 => FzAt H2 a ns ∧ ∃ z j, xs = [.int z] ∧ ns[j]? = some z ∧ (∀ m, m < j → ns[m]? ≠ some z) ∧ Q (.int (j : Nat)) H2
theorem pe_idxF {o e : Expr} {to : TE} {t : TA} {cpos : Pos} (ho : PE X o to) (ha : PA X [e] t)
    (hbase : attributeBase o "index" X.env (eval o X.env) = eval o X.env)
    (hfew : ((backTo cpos (starEach [e] X.env)).all (fun x => !x.1) && (backToKw cpos (keywordEach [] X.env)).all (fun x => x.1.isSome)
      && decide (([e] : List Expr).length + ([] : List Keyword).length + (if ([] : List Keyword).isEmpty then 0 else 1) < 30)) = true)
    (hline : (apos.endLine == cpos.line) = true) (hs : starEach [e] X.env = (false, eval e X.env) :: starEach [] X.env) (hplain : (backTo cpos (starEach [] X.env)).any (·.1) = false) :
    PE X (.Call (.Attribute o "index" apos) [e] [] cpos) (tIdxF X to t) := by
  refine ⟨fun pins s σ H Q I h => ?_⟩
  refine wpAny_Call_method_late hbase hfew hline rfl (thn (ho.run pins s σ H _ I h) fun v s1 ⟨x, H1, I1, r1, q1⟩ => ?_)
  obtain ⟨a, ns, rfl, ⟨ob, hdn, hf⟩, q1⟩ := q1
  obtain rfl : v = Value.ref a := r1
  obtain ⟨e0, hz, its, rv, ob', e1, hc', hd'⟩ := (show ObjOk X.prog X.w H1 s1.heap a (.frz ob (.tup _)) from I1.hok a _ hf)
  refine ⟨"tuple", _, PySem.F.plainAttrs_tuple, PySem.F.slot_tuple_index, PySem.F.type_tuple_index, ⟨ob', e1, hc'⟩, fun b eb => by cases eb; exact ⟨ob, e0, hdn⟩, ?_⟩
  have hA := ha.run cpos pins s1 σ H1 _ I1 q1
  rw [hs] at hA ⊢
  refine Calls.callWith_builtin (by show (false || (backTo cpos (starEach [] X.env)).any (·.1)) = false; rw [hplain] <;> rfl) (Calls.evalArgs_plain ?_)
  exact thn hA fun us s2 ⟨vs, H2, I2, r2, hf2, z, j, ez, q2, q3, q4⟩ => mt_tup_indexI pins s2 σ H2 (.ref a) vs (.ref a) us Q I2 rfl r2 ⟨a, ns, z, j, rfl, ez, hf2.seq, q2, q3, q4⟩
theorem de_indexF {ns : List Int} {j : Nat} (ha : DF X C env a ns) (hb : DE X C env b (.int i)) (hy : ns[j]? = some i) (hno : ∀ m, m < j → ns[m]? ≠ some i)
    (hbase : attributeBase a "index" X.env (eval a X.env) = eval a X.env := by rfl)
    (hfew : ((backTo pos (starEach [b] X.env)).all (fun x => !x.1) && (backToKw pos (keywordEach [] X.env)).all (fun x => x.1.isSome)
      && decide (([b] : List Expr).length + ([] : List Keyword).length + (if ([] : List Keyword).isEmpty then 0 else 1) < 30)) = true := by rfl)
    (hline : (apos.endLine == pos.line) = true := by rfl) (hs : starEach [b] X.env = (false, eval b X.env) :: starEach [] X.env := by rfl) (hplain : (backTo pos (starEach [] X.env)).any (·.1) = false := by rfl) :
    DE X C env (.Call (.Attribute a "index" apos) [b] [] pos) (dI j) := .mk fun S Q q =>
  wE_of (pe_idxF (wE_pe a) (pa_cons (wE_pe b) pa_nil hs) hbase hfew hline hs hplain) (ha.run S _ fun v G1 H1 g1 r1 => by
    refine ⟨v, ns, rfl, r1.mono g1.i, hb.run (S.grow g1) _ fun w G2 H2 g2 r2 => ?_⟩
    cases r2
    exact ⟨r1.mono (g2.g.trans g2.i), i, j, rfl, hy, hno, q _ _ _ (g1.trans g2) (.int _)⟩)
/-- tuple(xs) of a list of whole numbers, known to the object -/
theorem call_tupleF {X : Cx} : CallR X (.type "tuple") (fun xs H Q => ∃ p, ∃ ns : List Int, xs = [.ref p] ∧ SqL X.K H p (ns.map V.int) ∧ ∀ l o, H l = none → o.dict = none → Q (.ref l) (upd H l (.frz o (.tup (ns.map V.int))))) := by
  intro pins s σ H xs us Q I r h
  obtain ⟨p, ns, rfl, hq, q⟩ := h
  obtain ⟨u, rfl, rx⟩ := vals1 r
  cases rx
  obtain ⟨its, r', pl, hz⟩ := I.list hq
  have hlen := r'.length
  refine call_tuple_list pl.isList (fun h' kp => ?_) (by simp only [List.size_toArray] <;> omega)
  have I1 : Inv X pins σ H { s with heap := h' } := I.kept (t' := s.toks) kp
  have I2 : Inv X pins σ (upd H h'.objs.size (.frz { cls := .type "tuple", data := .seq its.toArray } (.tup (ns.map V.int)))) { s with heap := h'.push { cls := .type "tuple", data := .seq its.toArray } } :=
    I1.laid (t' := s.toks) (fun b o e => Heap.get?_push_of_some _ e) (Nat.le_refl _) (show ObjOk X.prog X.w _ _ _ (.frz _ (.tup (ns.map V.int))) from ⟨Heap.get?_push_size _ rfl, hz, its, r', IsTup.new _ _⟩)
  exact ⟨.ref h'.objs.size, _, I2, rfl, q _ _ (I1.hok.fresh (Nat.le_refl _)) rfl⟩
theorem df_tuple {ns : List Int} (T : Tp X.mg) (ha : DL X C env a (ns.map .int)) (hg : Gl X "tuple" := by rfl) (he : starEach [a] X.env = (false, eval a X.env) :: starEach [] X.env := by rfl) : DF X C env (.Call (.Name "tuple" p) [a] [] pos) ns := .mk fun S Q q =>
  wE_of (pe_callTy call_tupleF hg T.tuple (by decide +kernel) (pa_cons (wE_pe a) pa_nil he) (he := he)) (ha.run S _ fun v xs G1 H1 g1 e1 r1 => ⟨v, ns, rfl, by rw [← r1.ints]; exact SqL.of e1, fun l o hl ho => by
    have g := Gr.new (.frz o (.tup (ns.map V.int))) g1.i hl
    exact q l _ _ (g1.trans g) ⟨o, ho, upd_same⟩⟩)
theorem ds_retF {D : DEnds} {ns : List Int} (he : DF X C env a ns) (h : ∀ H0 G' H' v, FzAt G' v ns → D.rx H0 G' H' (.ref v)) : DS X C (.Return (some a) pos) env D := .mk fun S E q =>
  wS_of (ps_ret (wE_pe a)) (he.run S _ fun v G' H' g r => q.rx G' H' _ (S.gr.trans g) (h _ _ _ v r))
def spDF (C : Addr) (R : List Sl → List Int → Prop) : Sp := fun vs H Q _ => ∃ (G : Hp) (sl : List Sl) (ns : List Int), Same G H ∧ ArgsOk C G vs sl ∧ R sl ns ∧ ∀ a G' H', Gr G H G' H' → FzAt G' a ns → Q (.ref a) H'
structure DFnF (P : Program) (w : World) (K : PySem.W.Frag) (mg : Str → Option Value) (base : Heap) (C : Addr) (x : Str) (k : Nat) (R : List Sl → List Int → Prop) : Prop where
  ex : ∃ f fd ps, FnOk P w K mg base CX0 k f fd ps (spDF C R) ∧ mg x = some (.ref f) ∧ PySem.W.keepIn K (.ref f) = true ∧ Binds K fd ps []
theorem df_call {x : Str} {k : Nat} {sl : List Sl} {e : Expr} {es : List Expr} {ns : List Int} {R : List Sl → List Int → Prop} (F : DFnF X.prog X.w X.K X.mg X.base C x k R) (hr : Room k X.A) (ha : DAs X C env (e :: es) sl) (hR : R sl ns) (hg : Gl X x := by rfl)
    (hdb : (x == ("__debug__" : Str)) = false := by decide) (he : starEach (e :: es) X.env = (false, eval e X.env) :: starEach es X.env := by rfl) (hpl : (backTo pos (starEach es X.env)).any (·.1) = false := by rfl) :
    DF X C env (.Call (.Name x p) (e :: es) [] pos) ns := .mk fun S Q q => by
  obtain ⟨f, fd, ps, F, hm, hk, hb⟩ := F.ex
  refine wE_of (pe_call F hr hg hm hk hb .nil pass0 (wA_pa _) hdb he hpl) (ha.run S _ fun vs G1 H1 g1 r1 => ?_)
  rw [List.append_nil]
  exact ⟨G1, sl, ns, g1.i, r1, hR, fun a G2 H2 g2 h2 => q a G2 H2 (g1.trans g2) h2⟩
theorem ds_parFV {x y : Str} {D : DEnds} {d : PyData} {ns : List Int} {px py pt : Pos} {kt k2 : Nat} {pt2 : Pos} (s t : Nat) (ha : DF X C env a ns) (hb : DE X C env b d) (h : D.nx ((env.set s (.fz ns)).set t (.v d))) (hc : X.calm = true) (hN : X.N.Nodup) (hi : s < env.length := by exact Nat.le_of_ble_eq_true rfl) (hj : t < env.length := by exact Nat.le_of_ble_eq_true rfl) (hij : s ≠ t := by decide)
    (hx : X.N[s]? = some x := by rfl) (hy : X.N[t]? = some y := by rfl) (hlx : X.env.scope.names.lookup x = some .local := by rfl) (hly : X.env.scope.names.lookup y = some .local := by rfl)
    (hw : swappedStores [.Tuple [.Name x px, .Name y py] kt pt] (.Tuple [a, b] k2 pt2) X.env = pure (some [x, y]) := by rfl) (hs : swapsWithSole [.Tuple [.Name x px, .Name y py] kt pt] (.Tuple [a, b] k2 pt2) pos.line X.env = pure false := by rfl)
    (he : starEach [a, b] X.env = (false, eval a X.env) :: starEach [b] X.env := by rfl) (he2 : starEach [b] X.env = (false, eval b X.env) :: starEach [] X.env := by rfl) :
    DS X C (.Assign [.Tuple [.Name x px, .Name y py] kt pt] (.Tuple [a, b] k2 pt2) pos) env D := .mk fun S E q =>
  wS_of (ps_par hc hN hx hy hij hlx hly (pa_cons (wE_pe a) (pa_cons (wE_pe b) pa_nil he2) he) hw hs)
    (ha.run S _ fun v G1 H1 g1 r1 => hb.run (S.grow g1) _ fun w G2 H2 g2 r2 => ⟨.ref v, w, rfl, by
      obtain ⟨o, h1, h2⟩ := r1
      exact q.nx _ _ _ _ (g1.trans g2).g (((S.grow (g1.trans g2)).put (e := .fz ns) hi rfl ⟨v, o, rfl, h1, g2.g _ _ h2⟩).put (e := .v d) (by rw [List.length_set]; exact hj) rfl ⟨w, rfl, r2⟩) h⟩)
theorem mkFnF {P : Program} {w : World} {K : PySem.W.Frag} {mg : Str → Option Value} {base : Heap} {C : Addr} {x qual : Str} {st : Stmt} {f : Addr} {fd : FuncData} {N ps : List Str} {k : Nat} {R : List Sl → List Int → Prop} (F : Fun K x qual st f fd) (S : FnScope N ps (defScope st)) (len : ∀ sl d, R sl d → sl.length = ps.length)
    (body : ∀ (cdv : Value) (A : Around) (outer : List Env) (s : Shared) (H : Hp) (E : XK), Room k (A.deeper (PyProof.Rows.envOfC qual (defScope st) s.heap.objs.size f cdv)) → ∀ sl ns, R sl ns →
      DB (cxOf CX0 P w K mg base N qual (defScope st) f cdv A outer s H E).nox C (defBody st) (startD N sl) { nx := fun _ => False, rt := fun _ _ => False, rx := fun H0 G' H' v => ∃ a, v = .ref a ∧ FzAt G' a ns }) : FnOk P w K mg base CX0 (k + 1) f fd ps (spDF C R) := by
  refine F.ok S (fun vs H Q E h => ?_) (fun cdv A outer s H vs Q E hr h => ?_)
  · obtain ⟨G, sl, d, _, ha, hR, _⟩ := h
    rw [args_len ha]; exact len sl d hR
  · obtain ⟨G, sl, d, hs, ha, hR, q⟩ := h
    refine ⟨_, wSs_pss _, (body cdv A outer s H E hr sl d hR).run (st_start hs ha) _ ⟨fun _ _ _ _ _ _ z => z.elim, fun _ _ _ _ _ _ _ _ _ z => z.elim, fun _ _ _ _ _ _ z => z.elim, fun _ _ _ _ _ _ z => z.elim, fun G' H' v g ⟨a, ev, h1⟩ => ?_⟩⟩
    subst ev
    exact q a G' H' g h1
end
end TD
namespace TD
open PySem L2 PyProof.Rows
section
variable {X : Cx} {C : Addr} {N ps : List Str} {sc : Scope} {env env1 env2 : DEnv} {st : Stmt} {rest body : List Stmt} {D : DEnds} {a b e tg : Expr} {d : PyData} {ds es : List PyData} {pos p p2 p3 : Pos}
theorem ds_to (M : DEnv → Prop) (h : DS X C st env { D with nx := M }) (q : ∀ e, M e → D.nx e) : DS X C st env D := .mk fun S E k => h.run S E ⟨fun G' H' σ' env' s S' m => k.nx G' H' σ' env' s S' (q _ m), k.rt, k.bk, k.ct, k.rx⟩
theorem DQ.cast {es : List PyData} (h : DQ X C env e ds) (q : ds = es) : DQ X C env e es := q ▸ h
/-- y = [e for ..] -/
theorem ds_setMap {α : Type} {x : Str} {elt iter : Expr} {scope : Scope} {lpos : Pos} (s : Nat) (own : List (Str × Nat)) (enc : α → PyData) (as : List α) (out : α → PyData) (hc : X.calm = true) (FS : FnScope N ps sc) (src : DI X C env tg iter (as.map enc)) (hlen : as.length ≤ 10000000)
    (step : ∀ a ∈ as, ∃ env2 vs, (∀ v ∈ vs, v ∈ own.map (·.2)) ∧ env2.length = env.length ∧ ∀ (s : Shared) (H : Hp) (Cc : Addr) (cl : List (Str × Addr)) (fp : List Addr),
      DG (blkY X scope s H Cc cl fp) C tg (enc a) (wipeD env (own.map (·.2))) env2 vs ∧ DE (blkY X scope s H Cc cl fp) C env2 elt (out a))
    (h : D.nx (env.set s (.v (.list (as.map out)))))
    (hi : s < env.length := by exact Nat.le_of_ble_eq_true rfl) (hx : X.N[s]? = some x := by rfl) (hl : X.env.scope.names.lookup x = some .local := by rfl) (hsw : swapsWith (.ListComp elt [⟨tg, iter, [], 0⟩] scope lpos) (some (.Name x p2)) pos.line X.env = pure true := by exact sw_true rfl rfl rfl (by decide +kernel))
    (hs : ∀ x, foldedSetIterable iter X.env x = pure x := by intro _; rfl) (ok : blkC N sc scope own = true := by decide +kernel) (e1 : X.N = N := by rfl) (e2 : X.env.scope = sc := by rfl) : DS X C (.Assign [.Name x p2] (.ListComp elt [⟨tg, iter, [], 0⟩] scope lpos) pos) env D :=
  ds_setLc s own enc as (fun _ => true) out hc FS src hlen (fun a ha => by
    obtain ⟨env2, vs, h1, h2, h3⟩ := step a ha
    exact ⟨env2, vs, h1, h2, fun s H Cc cl fp => ⟨(h3 s H Cc cl fp).1, dts_nil, fun _ => (h3 s H Cc cl fp).2⟩⟩) (by rw [List.filter_eq_self.mpr (fun _ _ => rfl)]; exact h) hi hx hl hsw hs ok e1 e2
/-- a, b = x, y, a tuple known to the object and a value, the names of any kind -/
theorem ds_parFG {x y : Str} {ns : List Int} {px py pt : Pos} {kt k2 : Nat} {pt2 : Pos} (s t : Nat) (ha : DF X C env a ns) (hb : DE X C env b d) (h : D.nx ((env.set s (.fz ns)).set t (.v d))) (hc : X.calm = true) (hN : X.N.Nodup) (hi : s < env.length := by exact Nat.le_of_ble_eq_true rfl) (hj : t < env.length := by exact Nat.le_of_ble_eq_true rfl)
    (hx : X.N[s]? = some x := by rfl) (hy : X.N[t]? = some y := by rfl) (hl : Loc X.env.scope x := by first | exact Or.inl rfl | exact Or.inr rfl) (hf : X.fn x = true ∨ X.env.scope.names.lookup x = some .local := by first | exact .inl rfl | exact .inr rfl)
    (hl2 : Loc X.env.scope y := by first | exact Or.inl rfl | exact Or.inr rfl) (hf2 : X.fn y = true ∨ X.env.scope.names.lookup y = some .local := by first | exact .inl rfl | exact .inr rfl)
    (hs : swapsWithSole [.Tuple [.Name x px, .Name y py] kt pt] (.Tuple [a, b] k2 pt2) pos.line X.env = pure false := by rfl) (hw : swappedStores [.Tuple [.Name x px, .Name y py] kt pt] (.Tuple [a, b] k2 pt2) X.env = pure none := by rfl)
    (h1 : (assignEach [.Tuple [.Name x px, .Name y py] kt pt] X.env).map (·.2) = [assign (.Tuple [.Name x px, .Name y py] kt pt) X.env] := by rfl)
    (hn : (assignEach [.Name x px, .Name y py] X.env).length = 2 := by rfl) (hst : (assignEach [.Name x px, .Name y py] X.env).findIdx? (·.1) = none := by rfl)
    (hs1 : (assignEach [.Name x px, .Name y py] X.env).map (·.2) = assign (.Name x px) X.env :: (assignEach [.Name y py] X.env).map (·.2) := by rfl) (hs2 : (assignEach [.Name y py] X.env).map (·.2) = assign (.Name y py) X.env :: (assignEach [] X.env).map (·.2) := by rfl)
    (he : starEach [a, b] X.env = (false, eval a X.env) :: starEach [b] X.env := by rfl) (he2 : starEach [b] X.env = (false, eval b X.env) :: starEach [] X.env := by rfl) :
    DS X C (.Assign [.Tuple [.Name x px, .Name y py] kt pt] (.Tuple [a, b] k2 pt2) pos) env D := .mk fun S E q =>
  wS_of (ps_asg (pe_tup (pa_cons (wE_pe a) (pa_cons (wE_pe b) pa_nil he2) he)) (pg_tup hc (pgs_cons (pg_name hN hx hl hf) (pgs_cons (pg_name hN hy hl2 hf2) pgs_nil hs2) hs1) hn hst) hs hw h1)
    (ha.run S _ fun v G1 H1 g1 r1 => hb.run (S.grow g1) _ fun w G2 H2 g2 r2 => ⟨by rw [sizeLine_eq]; exact Nat.le_of_ble_eq_true rfl, fun p hp => by
      have g3 := Gr.new (.tup [.ref v, w]) g2.i hp
      obtain ⟨o, f1, f2⟩ := r1
      refine ⟨p, [.ref v, w], rfl, SqT.of upd_same, rfl, _, _, rfl, _, _, rfl, rfl, ?_⟩
      exact q.nx _ _ _ _ (g1.trans (g2.trans g3)).g (((S.grow (g1.trans (g2.trans g3))).put (e := .fz ns) hi rfl ⟨v, o, rfl, f1, (g2.trans g3).g _ _ f2⟩).put (e := .v d) (by rw [List.length_set]; exact hj) rfl ⟨w, rfl, r2.mono g3.g⟩) h⟩)
end
end TD
namespace TD
open PySem L2 TS
section
variable {w : World} {K : PySem.W.Frag} {mg : Str → Option Value} {base : Heap} {C : Addr} {f : Addr} {fd : FuncData}
abbrev s_is_tie : Stmt := top 15
theorem sc_is_tie : FnScope ["places", "value", "one"] ["places", "value"] (defScope s_is_tie) := ⟨rfl, rfl, rfl, by decide +kernel, rfl, by decide +kernel, by decide +kernel⟩
def R_is_tie (sl : List Sl) (d : PyData) : Prop := ∃ (n : Nat) (p : Nat × Nat), sl = [.v (dI n), .v (dP p)] ∧ p.1 < p.2 ∧ p.2 < n ∧ d = .bool true
theorem ok_is_tie (T : Tp mg) (gI : DFn PP w K mg base C "is_from" 1 R_is_from) (F : Fun K "is_tie" "is_tie" s_is_tie f fd) : FnOk PP w K mg base CX0 2 f fd ["places", "value"] (spD C R_is_tie) :=
  mkFn F sc_is_tie (fun sl d ⟨_, _, e, _⟩ => by rw [e]; rfl) fun cdv A outer s H E hr sl d hR => by
    obtain ⟨n, p, rfl, h1, h2, rfl⟩ := hR
    have nd := sc_is_tie.nd
    have e : dP p = .tuple ([p.1, p.2].map dI) := rfl
    refine db_cons (ds_if (DPW.dt (dw_or (dt_not (dt_val (de_isi T (de_name 1) T.tuple boot_tuple_ rfl))) (dw_or (dt_cmp (dc_neI (de_len T (de_name 1).dq) de_int)) (dw_or1 (dt_not (dt_val (de_allC T [("one", 2)] dI [p.1, p.2] (fun x => (decide (0 ≤ (x : Int)) && decide ((x : Int) ≤ (n : Int) - 1))) rfl sc_is_tie (di_tup (de_name 1)) (by show 2 ≤ 10000000; decide) fun a ha => ⟨_, _, ?_, ?_, fun s H Cc cl fp => ⟨dg_name 2 nd, ?_⟩⟩))))))) (fun k => ?_) (fun _ => ?_))
    · decide
    · rfl
    · exact de_call gI hr (das_v (de_name 2) (das_v de_int (das_v (de_sub (de_name 0) de_int) das_nil))) ⟨a, 0, (n : Int) - 1, rfl, rfl⟩
    · exfalso
      simp [dP] at k
      omega
    · refine db_nil (db_cons (ds_ret (de_cmp (dc_lt (de_ixT (de_name 1) de_int (d := dI p.1) rfl) (de_ixT (de_name 1) de_int (d := dI p.2) rfl))) ?_))
      show PyData.bool _ = _
      congr 1
      exact decide_eq_true (by omega)
abbrev s_neighbours : Stmt := top 17
theorem sc_neighbours : FnScope ["web", "place", "found", "one", "other"] ["web", "place"] (defScope s_neighbours) := ⟨rfl, rfl, rfl, by decide +kernel, rfl, by decide +kernel, by decide +kernel⟩
def R_neighbours (sl : List Sl) (d : PyData) : Prop := ∃ n r p, sl = [.web n r, .v (dI p)] ∧ r.length ≤ 10 ∧ d = .list ((nbrsS r p).map dI)
theorem ok_neighbours (T : Tp mg) (W : Wb K C) (F : Fun K "neighbours" "neighbours" s_neighbours f fd) : FnOk PP w K mg base CX0 1 f fd ["web", "place"] (spD C R_neighbours) :=
  mkFn F sc_neighbours (fun sl d ⟨_, _, _, e, _⟩ => by rw [e]; rfl) fun cdv A outer s H E hr sl d hR => by
    obtain ⟨n, r, p, rfl, h10, rfl⟩ := hR
    have nd := sc_neighbours.nd
    have l1 := List.length_filter_le (fun q : Nat × Nat => decide (q.1 = p)) r
    have l2 := List.length_filter_le (fun q : Nat × Nat => decide (q.2 = p)) r
    refine db_cons (ds_set 2 (dn_cat (dn_filt [("one", 3), ("other", 4)] dP r (fun q => decide (q.1 = p)) (fun q => dI q.2) rfl sc_neighbours (di_tup (de_rows W.cl W.nR (dw_name 0))) (by omega) fun a ha => ⟨_, _, ?_, ?_, fun s H Cc cl fp => ⟨dg_tup rfl (dgs_cons (dg_name 3 nd) (dgs_cons (dg_name 4 nd) dgs_nil)), ?_, fun _ => de_name 4⟩⟩).dl
      (dn_filt [("one", 3), ("other", 4)] dP r (fun q => decide (q.2 = p)) (fun q => dI q.1) rfl sc_neighbours (di_tup (de_rows W.cl W.nR (dw_name 0))) (by omega) fun a ha => ⟨_, _, ?_, ?_, fun s H Cc cl fp => ⟨dg_tup rfl (dgs_cons (dg_name 3 nd) (dgs_cons (dg_name 4 nd) dgs_nil)), ?_, fun _ => de_name 3⟩⟩).dl ?_).de ?_ nd)
    · decide
    · rfl
    · exact (dt_cmp (dc_eqI (de_name 3) (de_name 1))).cast (decide_eq_decide.mpr Int.ofNat_inj)
    · decide
    · rfl
    · exact (dt_cmp (dc_eqI (de_name 4) (de_name 1))).cast (decide_eq_decide.mpr Int.ofNat_inj)
    · rw [List.length_map, List.length_map, sizeLine_eq]; omega
    · have e : ((r.filter fun q => decide (q.1 = p)).map (fun q => dI q.2) ++ (r.filter fun q => decide (q.2 = p)).map fun q => dI q.1) = ((nbrs r p).map fun x : Nat => (x : Int)).map .int := by
        unfold nbrs
        rw [List.map_append, List.map_append, List.map_map, List.map_map, List.map_map, List.map_map]; rfl
      refine db_cons (ds_ret (dn_sortedI T ((de_name 2).dl.cast e) ?_).de ?_)
      · rw [List.length_map]; unfold nbrs; rw [List.length_append, List.length_map, List.length_map]; omega
      · show PyData.list _ = PyData.list _
        congr 1
        unfold nbrsS
        rw [← List.map_mergeSort (r := fun x y : Nat => decide (x ≤ y)) (f := fun x : Nat => (x : Int)), List.map_map]
        · rfl
        · intro a _ b _
          exact decide_eq_decide.mpr Int.ofNat_le.symm
abbrev s_check_clock : Stmt := top 48
theorem sc_check_clock : FnScope ["hours", "apart"] ["hours", "apart"] (defScope s_check_clock) := ⟨rfl, rfl, rfl, by decide +kernel, rfl, by decide +kernel, by decide +kernel⟩
structure HrOk (h a : Nat) : Prop where
  lo : 1 ≤ a
  le : a ≤ h
  hi : h ≤ 12
def R_check_clock (sl : List Sl) (d : PyData) : Prop := ∃ h a, sl = [.v (dI h), .v (dI a)] ∧ HrOk h a ∧ d = .none
theorem ok_check_clock {tk : Tok} (gM : mg "MOST_HOURS" = some (.int 12 tk)) (gI : DFn PP w K mg base C "is_from" 1 R_is_from) (F : Fun K "check_clock" "check_clock" s_check_clock f fd) : FnOk PP w K mg base CX0 2 f fd ["hours", "apart"] (spD C R_check_clock) :=
  mkFn F sc_check_clock (fun sl d ⟨_, _, e, _⟩ => by rw [e]; rfl) fun cdv A outer s H E hr sl d hR => by
    obtain ⟨h, a, rfl, ⟨h1, h2, h3⟩, rfl⟩ := hR
    refine db_cons (ds_if (DPW.dt (dw_or (dt_not (dt_val (de_call gI hr (das_v (de_name 0) (das_v de_int (das_v (de_globI gM) das_nil))) ⟨h, 1, 12, rfl, rfl⟩))) (dw_or1 (dt_not (dt_val (de_call gI hr (das_v (de_name 1) (das_v de_int (das_v (de_name 0) das_nil))) ⟨a, 1, h, rfl, rfl⟩)))))) (fun k => ?_) (fun _ => db_nil (db_nil rfl)))
    simp at k
    omega
abbrev s_check_few : Stmt := top 58
theorem sc_check_few : FnScope ["value"] ["value"] (defScope s_check_few) := ⟨rfl, rfl, rfl, by decide +kernel, rfl, by decide +kernel, by decide +kernel⟩
def R_check_few (sl : List Sl) (d : PyData) : Prop := ∃ m : Nat, sl = [.v (dI m)] ∧ 1 ≤ m ∧ m ≤ 6 ∧ d = .none
theorem ok_check_few {tk : Tok} (gM : mg "MOST_PLACES" = some (.int 6 tk)) (gI : DFn PP w K mg base C "is_from" 1 R_is_from) (F : Fun K "check_few" "check_few" s_check_few f fd) : FnOk PP w K mg base CX0 2 f fd ["value"] (spD C R_check_few) :=
  mkFn F sc_check_few (fun sl d ⟨_, e, _⟩ => by rw [e]; rfl) fun cdv A outer s H E hr sl d hR => by
    obtain ⟨m, rfl, h1, h2, rfl⟩ := hR
    refine db_cons (ds_if (dt_not (dt_val (de_call gI hr (das_v (de_name 0) (das_v de_int (das_v (de_globI gM) das_nil))) ⟨m, 1, 6, rfl, rfl⟩))) (fun k => ?_) (fun _ => db_nil (db_nil rfl)))
    simp at k
    omega
end
end TD
namespace TD
open PySem L2 TS
section
variable {w : World} {K : PySem.W.Frag} {mg : Str → Option Value} {base : Heap} {C : Addr} {f : Addr} {fd : FuncData}
theorem atI_nats {l : List Nat} {i : Nat} (h : i < l.length) : atI (l.map dI) (i : Int) = some (dI (l.getD i 0)) := atI_nat (by rw [List.getElem?_map, List.getElem?_eq_getElem h, List.getD_eq_getElem?_getD, List.getElem?_eq_getElem h]; rfl)
theorem atI_last {l : List Nat} (h : l ≠ []) : atI (l.map dI) (-1) = some (dI (l.getLastD 0)) := by
  have hl : 0 < l.length := List.length_pos_iff.mpr h
  have e : ixN (l.map dI).length (-1) = some (l.length - 1) := by
    unfold ixN
    rw [List.length_map, if_neg (by decide), if_pos (by omega)]
    congr 1
    omega
  unfold atI
  rw [e, Option.bind_some, List.getElem?_map, ← List.getLast?_eq_getElem?, List.getLast?_eq_some_getLast h]
  cases l with
  | nil => exact absurd rfl h
  | cons a t => rfl
theorem cast_nats (l : List Nat) : l.map dI = (l.map fun x : Nat => (x : Int)).map .int := by rw [List.map_map]; rfl
theorem contains_cast (l : List Nat) (x : Nat) : (l.map fun x : Nat => (x : Int)).contains (x : Int) = decide (x ∈ l) := by
  rw [Bool.eq_iff_iff, List.contains_iff_mem, decide_eq_true_iff, List.mem_map]
  constructor
  · rintro ⟨a, h, e⟩; cases Int.ofNat.inj e; exact h
  · exact fun h => ⟨x, h, rfl⟩
abbrev s_ways_on : Stmt := top 18
theorem sc_ways_on : FnScope ["web", "way", "found", "place"] ["web", "way"] (defScope s_ways_on) := ⟨rfl, rfl, rfl, by decide +kernel, rfl, by decide +kernel, by decide +kernel⟩
def R_ways_on (j : Nat) (sl : List Sl) (d : PyData) : Prop := ∃ n r wy, sl = [.web n r, .v (.list (wy.map dI))] ∧ WebOk n r ∧ wy ≠ [] ∧ wy.Nodup ∧ (∀ x ∈ wy, x < n) ∧ wy.length + j = n + 1 ∧ d = .list ((waysOn r j wy).map dNats)
theorem ok_ways_step (T : Tp mg) (W : Wb K C) (j : Nat) (gN : DFn PP w K mg base C "neighbours" 1 R_neighbours) (gW : DFn PP w K mg base C "ways_on" (j + 1) (R_ways_on j)) (F : Fun K "ways_on" "ways_on" s_ways_on f fd) : FnOk PP w K mg base CX0 (j + 2) f fd ["web", "way"] (spD C (R_ways_on (j + 1))) :=
  mkFn F sc_ways_on (fun sl d ⟨_, _, _, e, _⟩ => by rw [e]; rfl) fun cdv A outer s H E hr sl d hR => by
    obtain ⟨n, r, wy, rfl, wo, hne, hnd, hlt, hln, rfl⟩ := hR
    have nd := sc_ways_on.nd
    have h6 := wo.le
    have h10 := wo.len
    have hlen : 0 < wy.length := List.length_pos_iff.mpr hne
    have hb : ∀ w', (waysOn r j w').length ≤ 111110 := fun w' => Nat.le_trans (waysOn_len (fun p hp => (wo.lt p hp).1) h10 j w') (Nat.le_trans (bnd_mono (show j ≤ 5 by omega)) (by decide))
    have hst : ∀ p, (wayStep r j wy p).length ≤ 111111 := fun p => by
      unfold wayStep
      rw [List.length_append]
      have := hb (wy ++ [p])
      split <;> split <;> simp <;> omega
    have hnl : (nbrsS r (wy.getLastD 0)).length ≤ 10 := by
      rw [(nbrsS_perm _ _).length_eq]; exact Nat.le_trans (nbrs_len (fun p hp => (wo.lt p hp).1) _) h10
    have hw0 : atI (wy.map dI) ((0 : Nat) : Int) = some (dI (wy.headD 0)) := by
      rw [atI_nats hlen]
      cases wy with
      | nil => exact absurd rfl hne
      | cons a t => rfl
    refine db_cons (ds_setN 2 dn_nil ?_ nd)
    refine db_cons (ds_for (fun i env => ∃ x, env = [.web n r, .v (.list (wy.map dI)), .mu ((((nbrsS r (wy.getLastD 0)).take i).flatMap (wayStep r j wy)).map dNats), x]) PassesOwn.never rfl (di_list (de_call gN (hr.mono (by omega)) (das_w (dw_name 0) (das_v (de_ixL (de_name 1).dl (de_neg de_int) (atI_last hne)) das_nil)) ⟨n, r, _, rfl, h10, rfl⟩)) ⟨_, rfl⟩ ?_ ?_)
    · rintro i d env1 hd ⟨x, rfl⟩
      obtain ⟨p, hp, rfl⟩ := map_get hd
      have hi : i < (nbrsS r (wy.getLastD 0)).length := (List.getElem?_eq_some_iff.mp hp).1
      have tk : (nbrsS r (wy.getLastD 0)).take (i + 1) = (nbrsS r (wy.getLastD 0)).take i ++ [p] := by rw [List.take_add_one, hp]; rfl
      have hpre : (((nbrsS r (wy.getLastD 0)).take i).flatMap (wayStep r j wy)).length ≤ 9 * 111111 := by
        have q := flat_len (g := wayStep r j wy) ((nbrsS r (wy.getLastD 0)).take i) fun p _ => hst p
        have : ((nbrsS r (wy.getLastD 0)).take i).length ≤ 9 := by rw [List.length_take]; omega
        exact Nat.le_trans q (Nat.mul_le_mul_right _ this)
      refine ⟨_, _, dg_name 3 nd, ?_⟩
      generalize hcur : ((nbrsS r (wy.getLastD 0)).take i).flatMap (wayStep r j wy) = cur at hpre
      have hnew : ((nbrsS r (wy.getLastD 0)).take (i + 1)).flatMap (wayStep r j wy) = cur ++ wayStep r j wy p := by rw [tk, List.flatMap_append, hcur, List.flatMap_cons, List.flatMap_nil, List.append_nil]
      rw [hnew]
      have hpn : p < n := by
        rcases nbrsS_mem.mp (List.mem_of_getElem? hp) with h | h
        · exact (wo.lt _ h).2
        · have := wo.lt _ h; exact Nat.lt_trans this.1 this.2
      clear hnew tk hp hi hcur
      unfold wayStep
      refine db_cons (ds_to (fun env => env = [.web n r, .v (.list (wy.map dI)), .mu ((cur ++ if p = wy.headD 0 ∧ 2 < wy.length ∧ wy.getD 1 0 < wy.getLastD 0 then [wy] else []).map dNats), .v (dI p)]) (ds_if (k := decide (p = wy.headD 0 ∧ 2 < wy.length ∧ wy.getD 1 0 < wy.getLastD 0)) ?_ (fun k => ?_) (fun k => ?_)) fun e he => ?_)
      · by_cases q1 : p = wy.headD 0
        · by_cases q2 : 2 < wy.length
          · refine (DPW.dt (dw_and' ((dt_cmp (dc_eqI (de_name 3) (de_ixL (de_name 1).dl de_int hw0))).cast (decide_eq_true (by omega))) (dw_and' ((dt_cmp (dc_gt (de_len T (de_name 1).dq') de_int)).cast (decide_eq_true (by rw [List.length_map]; omega)))
              (dw_and1 (dt_cmp (dc_lt (de_ixL (de_name 1).dl de_int (atI_nats (i := 1) (by omega))) (de_ixL (de_name 1).dl (de_neg de_int) (atI_last hne)))))))).cast ?_
            exact decide_eq_decide.mpr (by omega)
          · refine (DPW.dt (dw_and' ((dt_cmp (dc_eqI (de_name 3) (de_ixL (de_name 1).dl de_int hw0))).cast (decide_eq_true (by omega))) (dw_andF ((dt_cmp (dc_gt (de_len T (de_name 1).dq') de_int)).cast (decide_eq_false (by rw [List.length_map]; omega)))))).cast ?_
            exact (decide_eq_false (by omega)).symm
        · refine (DPW.dt (dw_andF ((dt_cmp (dc_eqI (de_name 3) (de_ixL (de_name 1).dl de_int hw0))).cast (decide_eq_false (by omega))))).cast ?_
          exact (decide_eq_false (by omega)).symm
      · have k := of_decide_eq_true k
        rw [if_pos k]
        refine db_cons (ds_append 2 rfl (de_tuple T (de_name 1).dl) (by rw [List.length_map]; omega) (db_nil ?_))
        rw [List.map_append]; rfl
      · have k := of_decide_eq_false k
        rw [if_neg k, List.append_nil]
        exact db_nil rfl
      · subst he
        have hc1 : (if p = wy.headD 0 ∧ 2 < wy.length ∧ wy.getD 1 0 < wy.getLastD 0 then [wy] else []).length ≤ 1 := by split <;> simp
        generalize (if p = wy.headD 0 ∧ 2 < wy.length ∧ wy.getD 1 0 < wy.getLastD 0 then [wy] else []) = c1 at hc1
        refine db_cons (ds_if (k := decide (wy.headD 0 < p ∧ p ∉ wy)) ?_ (fun k => ?_) (fun k => ?_))
        · by_cases q1 : wy.headD 0 < p
          · refine (DPW.dt (dw_and' ((dt_cmp (dc_gt (de_name 3) (de_ixL (de_name 1).dl de_int hw0))).cast (decide_eq_true (by omega))) (dw_and1 (dt_cmp (dc_notInI (de_name 3) ((de_name 1).dq'.cast (cast_nats wy))))))).cast ?_
            rw [contains_cast]
            simp only [q1, true_and, decide_not]
          · exact (DPW.dt (dw_andF ((dt_cmp (dc_gt (de_name 3) (de_ixL (de_name 1).dl de_int hw0))).cast (decide_eq_false (by omega))))).cast (decide_eq_false (fun z => q1 z.1)).symm
        · obtain ⟨k1, k2⟩ := of_decide_eq_true k
          rw [if_pos ⟨k1, k2⟩]
          refine db_cons (ds_extend 2 rfl (de_call gW hr (das_w (dw_name 0) (das_v (dn_lst (da_star (de_name 1).dq' (da_cons (de_name 3) da_nil)) ?_).de das_nil)) ⟨n, r, wy ++ [p], ?_, wo, by simp, ?_, ?_, ?_, rfl⟩) ?_ (db_nil (db_nil ?_)))
          · rw [List.length_append, List.length_map, sizeLine_eq]; simp; omega
          · simp
          · rw [List.nodup_append]; exact ⟨hnd, by simp, fun a ha b hb e => by simp at hb; subst hb; subst e; exact k2 ha⟩
          · intro x hx
            rcases List.mem_append.mp hx with hx | hx
            · exact hlt x hx
            · simp at hx; omega
          · rw [List.length_append, List.length_singleton]; omega
          · have := hb (wy ++ [p])
            rw [List.length_map, List.length_map, List.length_append]; omega
          · refine ⟨.v (dI p), ?_⟩
            show [Sl.web n r, .v (.list (wy.map dI)), .mu (_ ++ _), .v (dI p)] = _
            rw [← List.map_append, List.append_assoc]
        · rw [if_neg (of_decide_eq_false k), List.append_nil]
          exact db_nil (db_nil ⟨_, rfl⟩)
    · rintro env1 ⟨x, rfl⟩
      refine db_freeze 2 rfl (db_cons (ds_ret (de_name 2) ?_))
      rw [List.take_of_length_le (by rw [List.length_map]; exact Nat.le_refl _)]
      rfl
end
end TD
namespace TD
open PySem L2 TS
section
variable {w : World} {K : PySem.W.Frag} {mg : Str → Option Value} {base : Heap} {C : Addr} {f : Addr} {fd : FuncData}
theorem DFn.of {x : Str} {k : Nat} {ps : List Str} {R : List Sl → PyData → Prop} (h : FnOk PP w K mg base CX0 k f fd ps (spD C R)) (hm : mg x = some (.ref f)) (hk : PySem.W.keepIn K (.ref f) = true) (hb : Binds K fd ps []) : DFn PP w K mg base C x k R := ⟨f, fd, ps, h, hm, hk, hb⟩
theorem none_D {k : Nat} {ps : List Str} {R : List Sl → PyData → Prop} (no : ∀ sl d, ¬ R sl d) : FnOk PP w K mg base CX0 k f fd ps (spD C R) :=
  ⟨fun vs H Q E ⟨_, sl, d, _, _, h, _⟩ => absurd h (no sl d), fun A outer s H args us vs Q E _ _ _ _ ⟨_, sl, d, _, _, h, _⟩ => absurd h (no sl d)⟩
theorem ok_ways_on (T : Tp mg) (W : Wb K C) (gN : DFn PP w K mg base C "neighbours" 1 R_neighbours) (F : Fun K "ways_on" "ways_on" s_ways_on f fd) (hm : mg "ways_on" = some (.ref f)) (hb : Binds K fd ["web", "way"] []) : ∀ j, DFn PP w K mg base C "ways_on" (j + 1) (R_ways_on j)
  | 0 => .of (none_D fun sl d ⟨n, r, wy, _, _, _, hnd, hlt, hln, _⟩ => by have := nodup_le n wy hnd hlt; omega) hm F.kp hb
  | j + 1 => .of (ok_ways_step T W j gN (ok_ways_on T W gN F hm hb j) F) hm F.kp hb
/-- all rings, in the program's order -/
def ringsD (n : Nat) (r : List (Nat × Nat)) : List (List Nat) := (rawRings n r).mergeSort (PySem.W.dataLe false dNats)
theorem ringsD_perm (n : Nat) (r : List (Nat × Nat)) : (ringsD n r).Perm (rawRings n r) := List.mergeSort_perm _ _
theorem ways_ne {r : List (Nat × Nat)} : ∀ (k : Nat) (wy : List Nat), wy ≠ [] → ∀ x ∈ waysOn r k wy, x ≠ []
  | 0, wy, _, x, hx => nomatch hx
  | k + 1, wy, hw, x, hx => by
    obtain ⟨p, _, hx⟩ := List.mem_flatMap.mp hx
    rcases List.mem_append.mp hx with hx | hx
    · split at hx
      · rw [List.mem_singleton.mp hx]; exact hw
      · cases hx
    · split at hx
      · exact ways_ne k (wy ++ [p]) (by simp) x hx
      · cases hx
theorem rings_ne {n : Nat} {r : List (Nat × Nat)} : ∀ x ∈ rawRings n r, x ≠ [] := fun x hx => by
  obtain ⟨p, _, hx⟩ := List.mem_flatMap.mp hx
  exact ways_ne n [p] (by simp) x hx
theorem rings_len {n : Nat} {r : List (Nat × Nat)} (wo : WebOk n r) : (rawRings n r).length ≤ 6666660 := by
  have h := flat_len (g := fun p => waysOn r n [p]) (List.range n) fun p _ => Nat.le_trans (waysOn_len (fun p hp => (wo.lt p hp).1) wo.len n [p]) (bnd6 wo.le)
  rw [List.length_range] at h
  exact Nat.le_trans h (Nat.le_trans (Nat.mul_le_mul_right _ wo.le) (by decide))
theorem ringsD_len {n : Nat} {r : List (Nat × Nat)} (wo : WebOk n r) : (ringsD n r).length ≤ 6666660 := by rw [(ringsD_perm n r).length_eq]; exact rings_len wo
theorem alike_nats (a b : List Nat) : PySem.W.alike (dNats a) (dNats b) = true := by
  unfold dNats; rw [PySem.W.alike, cast_nats, cast_nats]; exact PySem.W.alike_ints _ _
theorem depth_dNats (a : List Nat) : (dNats a).depth ≤ 1 := (lay_dNats a).d
abbrev s_rings_of : Stmt := top 19
theorem sc_rings_of : FnScope ["web", "place", "ring"] ["web"] (defScope s_rings_of) := ⟨rfl, rfl, rfl, by decide +kernel, rfl, by decide +kernel, by decide +kernel⟩
def R_rings_of (sl : List Sl) (d : PyData) : Prop := ∃ n r, sl = [.web n r] ∧ WebOk n r ∧ d = .list ((ringsD n r).map dNats)
theorem ok_rings_of (T : Tp mg) (W : Wb K C) (gW : ∀ j, DFn PP w K mg base C "ways_on" (j + 1) (R_ways_on j)) (F : Fun K "rings_of" "rings_of" s_rings_of f fd) : FnOk PP w K mg base CX0 8 f fd ["web"] (spD C R_rings_of) :=
  mkFn F sc_rings_of (fun sl d ⟨_, _, e, _⟩ => by rw [e]; rfl) fun cdv A outer s H E hr sl d hR => by
    obtain ⟨n, r, rfl, wo, rfl⟩ := hR
    have nd := sc_rings_of.nd
    have h6 := wo.le
    have hu := hr.units
    refine db_cons (ds_ret (dn_sortedD dNats (rawRings n r) T (((dn_lc2 (own := [("place", 1), ("ring", 2)]) dI (List.range n) (fun _ => dNats) (fun p => waysOn r n [p]) (fun _ ring => dNats ring) [2] rfl sc_rings_of (by decide) ((di_range1 T (de_many W.cl W.nM (dw_name 0)) ⟨by omega, by omega⟩).cast ?_) ?_ (fun a ha => ⟨_, _, ?_, ?_, fun s H Cc cl fp => ⟨dg_name 1 nd, ?_, fun b hb => ⟨_, _, ?_, ?_, fun s H Cc cl fp => ⟨dg_name 2 nd, de_name 2⟩⟩⟩⟩)).dl.cast ?_)) ?_ ?_ ?_).de ?_)
    · unfold dRange dI
      rw [Int.toNat_natCast]
      simp
    · exact Nat.le_trans (rings_len wo) (by decide)
    · decide
    · rfl
    · have hn := List.mem_range.mp ha
      exact di_list (de_call (gW n) (hr.mono (by omega)) (das_w (dw_name 0) (das_v (dn_lst (da_cons (de_name 1) da_nil)).de das_nil)) ⟨n, r, [a], rfl, wo, by simp, by simp, by simpa using hn, by simp; omega, rfl⟩)
    · decide
    · rfl
    · unfold rawRings
      rw [List.map_flatMap]
    · exact PySem.W.AllAlike.of alike_nats
    · refine .inl fun d hd => ?_
      obtain ⟨x, hx, rfl⟩ := List.mem_map.mp hd
      cases x with
      | nil => exact absurd rfl (rings_ne _ hx)
      | cons a t => exact ⟨_, _, rfl⟩
    · intro b _
      have := depth_dNats b
      show (A.deeper _).units + 2 + _ < _
      omega
    · rfl
end
end TD
namespace TD
open PySem L2 TS
section
variable {w : World} {K : PySem.W.Frag} {mg : Str → Option Value} {base : Heap} {C : Addr} {f : Addr} {fd : FuncData}
theorem rnd_dP (x : Nat) (t : List Nat) : dZip ((x :: t).map dI) ((t ++ [x]).map dI) = (rnd (x :: t)).map dP := by
  rw [rnd_zip]
  unfold dZip
  have : ∀ (a b : List Nat), List.zipWith (fun a b => PyData.tuple [a, b]) (a.map dI) (b.map dI) = (a.zip b).map dP := fun a => by
    induction a with
    | nil => intro b; rfl
    | cons y a ih =>
      intro b
      cases b with
      | nil => rfl
      | cons z b => rw [List.map_cons, List.map_cons, List.zipWith_cons_cons, ih, List.zip_cons_cons, List.map_cons]; rfl
  exact this _ _
abbrev s_forward : Stmt := top 42
theorem sc_forward : FnScope ["web", "signs", "ring", "arrows", "one"] ["web", "signs", "ring"] (defScope s_forward) := ⟨rfl, rfl, rfl, by decide +kernel, rfl, by decide +kernel, by decide +kernel⟩
def R_forward (sl : List Sl) (d : PyData) : Prop := ∃ n r sg ring, sl = [.web n r, .v (dInts sg), .v (dNats ring)] ∧ r.length ≤ 10 ∧ ring ≠ [] ∧ ring.length ≤ 100 ∧ d = dI (fwd r sg ring)
theorem ok_forward (T : Tp mg) (W : Wb K C) (gA : DFn PP w K mg base C "arrows_of" 1 R_arrows_of) (F : Fun K "forward" "forward" s_forward f fd) : FnOk PP w K mg base CX0 2 f fd ["web", "signs", "ring"] (spD C R_forward) :=
  mkFn F sc_forward (fun sl d ⟨_, _, _, _, e, _⟩ => by rw [e]; rfl) fun cdv A outer s H E hr sl d hR => by
    obtain ⟨n, r, sg, ring, rfl, h10, hne, h100, rfl⟩ := hR
    have nd := sc_forward.nd
    obtain ⟨x, t, rfl⟩ : ∃ x t, ring = x :: t := by cases ring with | nil => exact absurd rfl hne | cons x t => exact ⟨x, t, rfl⟩
    have hu : (A.deeper (PyProof.Rows.envOfC "forward" (defScope s_forward) s.heap.objs.size f cdv)).units + 65 < cLine := by have := hr.un; omega
    refine db_cons (ds_set 3 (de_call gA hr (das_w (dw_name 0) (das_v (de_name 1) das_nil)) ⟨n, r, sg, rfl, h10, rfl⟩) ?_ nd)
    have hl : (t.map dI ++ [dI x]).length ≤ sizeLine := by rw [List.length_append, List.length_map, sizeLine_eq]; simp at h100 ⊢; omega
    have e2 : cutD ((x :: t).map dI) (some 1) none ++ [dI x] = (t ++ [x]).map dI := by
      unfold cutD HT.sIx
      rw [List.map_append]
      simp
      rw [List.take_of_length_le (by rw [List.length_map]; exact Nat.le_refl _)]
    refine db_cons (ds_ret (d := dI (fwd r sg (x :: t))) ((de_len T (dn_filt [("one", 4)] dP (rnd (x :: t)) (fun p => decide (p ∈ arrowsOf r sg)) dP rfl sc_forward ((di_zipN T (de_name 2) (de_tup (da_star (de_sliceT (l := some 1) (h := none) (de_name 2) ?_ ?_).dq (da_cons (de_ixT (d := dI x) (de_name 2) de_int (atI_nats (l := x :: t) (i := 0) (by simp))) da_nil)) ?_) ?_).cast ?_) ?_ fun a ha => ⟨_, _, ?_, ?_, fun s H Cc cl fp => ⟨dg_name 4 nd, dt_cmp (dc_inL hu (de_name 4).dr (de_name 3).dr (lay_dP a).sh (lay_dPs _).sh ((any_eqv clean_dP dP_inj _ _).trans (decide_eq_decide.mpr Iff.rfl))), fun _ => de_name 4⟩⟩).dl.dq).cast ?_) ?_)
    · exact de_int
    · trivial
    · rw [e2, List.length_map, List.length_append, sizeLine_eq]; simp at h100 ⊢; omega
    · rw [e2, List.length_map, List.length_map, List.length_append]; simp
    · rw [e2]; exact rnd_dP x t
    · rw [rnd_len]; omega
    · decide
    · rfl
    · rw [List.length_map]; rfl
    · rfl
abbrev s_both_ways : Stmt := top 43
theorem sc_both_ways : FnScope ["web", "signs", "rows", "ring", "many"] ["web", "signs"] (defScope s_both_ways) := ⟨rfl, rfl, rfl, by decide +kernel, rfl, by decide +kernel, by decide +kernel⟩
/-- the rings' places are few -/
theorem ways_short {r : List (Nat × Nat)} {N : Nat} : ∀ (k : Nat) (wy : List Nat), wy.length + k ≤ N → ∀ x ∈ waysOn r k wy, x.length ≤ N
  | 0, wy, _, x, hx => nomatch hx
  | k + 1, wy, hw, x, hx => by
    obtain ⟨p, _, hx⟩ := List.mem_flatMap.mp hx
    rcases List.mem_append.mp hx with hx | hx
    · split at hx
      · rw [List.mem_singleton.mp hx]; omega
      · cases hx
    · split at hx
      · exact ways_short k (wy ++ [p]) (by rw [List.length_append, List.length_singleton]; omega) x hx
      · cases hx
theorem rings_short {n : Nat} {r : List (Nat × Nat)} (wo : WebOk n r) : ∀ x ∈ ringsD n r, x ≠ [] ∧ x.length ≤ 7 := fun x hx => by
  have hx := (ringsD_perm n r).mem_iff.mp hx
  refine ⟨rings_ne x hx, ?_⟩
  obtain ⟨p, _, hx⟩ := List.mem_flatMap.mp hx
  exact ways_short (N := 7) n [p] (by have := wo.le; simp; omega) x hx
def dBw (r : List (Nat × Nat)) (sg : List Int) (ring : List Nat) : PyData := .tuple [dNats ring, dI (fwd r sg ring), .int ((ring.length : Int) - (fwd r sg ring : Int))]
def R_both_ways (sl : List Sl) (d : PyData) : Prop := ∃ n r sg, sl = [.web n r, .v (dInts sg)] ∧ WebOk n r ∧ SgOk r sg ∧ d = .list ((ringsD n r).map (dBw r sg))
theorem ok_both_ways (T : Tp mg) (gC : DFn PP w K mg base C "check_signs" 3 R_check_signs) (gR : DFn PP w K mg base C "rings_of" 8 R_rings_of) (gF : DFn PP w K mg base C "forward" 2 R_forward) (F : Fun K "both_ways" "both_ways" s_both_ways f fd) : FnOk PP w K mg base CX0 9 f fd ["web", "signs"] (spD C R_both_ways) :=
  mkFn F sc_both_ways (fun sl d ⟨_, _, _, e, _⟩ => by rw [e]; rfl) fun cdv A outer s H E hr sl d hR => by
    obtain ⟨n, r, sg, rfl, wo, so, rfl⟩ := hR
    have nd := sc_both_ways.nd
    have hl := ringsD_len wo
    refine db_cons (ds_expr (de_call gC (hr.mono (by decide)) (das_w (dw_name 0) (das_v (de_name 1) das_nil)) ⟨n, r, sg, rfl, so, wo.len, rfl⟩) ?_)
    refine db_cons (ds_setMap 2 [("ring", 3)] dNats (ringsD n r) (fun ring => .tuple [dNats ring, dI (fwd r sg ring)]) rfl sc_both_ways (di_list (de_call gR hr (das_w (dw_name 0) das_nil) ⟨n, r, rfl, wo, rfl⟩)) (by omega) (fun a ha => ⟨_, _, ?_, ?_, fun s H Cc cl fp => ⟨dg_name 3 nd, ?_⟩⟩) ?_)
    · decide
    · rfl
    · have hs := rings_short wo a ha
      exact de_tup (da_cons (de_name 3) (da_cons (de_call gF (hr.mono (by decide)) (das_w (dw_name 0) (das_v (de_name 1) (das_v (de_name 3) das_nil))) ⟨n, r, sg, a, rfl, wo.len, hs.1, by omega, rfl⟩) da_nil))
    · refine db_cons (ds_ret (dn_map [("ring", 3), ("many", 4)] (fun ring => .tuple [dNats ring, dI (fwd r sg ring)]) (ringsD n r) (dBw r sg) rfl sc_both_ways (di_list (de_name 2)) (by omega) fun a ha => ⟨_, _, ?_, ?_, fun s H Cc cl fp => ⟨dg_tup rfl (dgs_cons (dg_name 3 nd) (dgs_cons (dg_name 4 nd) dgs_nil)), ?_⟩⟩).de ?_)
      · decide
      · rfl
      · refine (de_tup (da_cons (de_name 3) (da_cons (de_name 4) (da_cons (de_sub (de_len T (de_name 3).dq) (de_name 4)) da_nil)))).cast ?_
        rw [List.length_map]; rfl
      · rfl
end
end TD
namespace TD
open PySem L2 TS
section
variable {w : World} {K : PySem.W.Frag} {mg : Str → Option Value} {base : Heap} {C : Addr} {f : Addr} {fd : FuncData}
abbrev s_reduced : Stmt := top 44
theorem sc_reduced : FnScope ["one", "other", "first", "second"] ["one", "other"] (defScope s_reduced) := ⟨rfl, rfl, rfl, by decide +kernel, rfl, by decide +kernel, by decide +kernel⟩
def R_reduced (sl : List Sl) (d : PyData) : Prop := ∃ a b : Nat, sl = [.v (dI a), .v (dI b)] ∧ 0 < a ∧ a ≤ 100 ∧ b ≤ 100 ∧ d = .tuple [dI (a / Nat.gcd a b), dI (b / Nat.gcd a b)]
theorem gcd_step (a b : Nat) (h : 0 < b) : Nat.gcd b (a % b) = Nat.gcd a b := by rw [Nat.gcd_comm b, ← Nat.gcd_rec, Nat.gcd_comm]
theorem ok_reduced (F : Fun K "reduced" "reduced" s_reduced f fd) : FnOk PP w K mg base CX0 1 f fd ["one", "other"] (spD C R_reduced) :=
  mkFn F sc_reduced (fun sl d ⟨_, _, e, _⟩ => by rw [e]; rfl) fun cdv A outer s H E hr sl d hR => by
    obtain ⟨a, b, rfl, h0, ha, hb, rfl⟩ := hR
    have nd := sc_reduced.nd
    refine db_cons (ds_par 2 3 (de_name 0) (de_name 1) ?_ rfl nd)
    refine db_cons (ds_while (fun m env => ∃ x y : Nat, m = y ∧ Nat.gcd x y = Nat.gcd a b ∧ 0 < x ∧ x ≤ 100 ∧ y ≤ 100 ∧ env = [.v (dI a), .v (dI b), .v (dI x), .v (dI y)]) PassesOwn.never b ⟨a, b, rfl, rfl, h0, ha, hb, rfl⟩ ?_)
    rintro y env1 ⟨x, _, rfl, hg, hx0, hx, hy, rfl⟩
    refine ⟨_, dt_cmp (dc_gt (de_name 3) de_int), fun k => ?_, fun k => ?_⟩
    · have k : (0 : Int) < (y : Int) := of_decide_eq_true k
      have hy0 : 0 < y := by omega
      refine db_cons (ds_par 2 3 (de_name 3) ((de_mod (de_name 2) (de_name 3) k).cast (?_ : _ = dI (x % y))) (db_nil ⟨x % y, Nat.mod_lt _ hy0, y, x % y, rfl, ?_, hy0, hy, ?_, rfl⟩) rfl nd)
      · rfl
      · rw [gcd_step _ _ hy0]; exact hg
      · have := Nat.mod_lt x hy0; omega
    · have k : ¬ (0 : Int) < (y : Int) := of_decide_eq_false k
      have hy0 : y = 0 := by omega
      subst hy0
      rw [Nat.gcd_zero_right] at hg
      refine db_cons (ds_ret (de_tup (da_cons (de_fdiv (de_name 0) (de_name 2) ⟨by omega, by omega⟩) (da_cons (de_fdiv (de_name 1) (de_name 2) ⟨by omega, by omega⟩) da_nil))) ?_)
      rw [← hg]
      rfl
abbrev s_strain_of : Stmt := top 45
theorem sc_strain_of : FnScope ["web", "signs", "best", "ring", "many", "few"] ["web", "signs"] (defScope s_strain_of) := ⟨rfl, rfl, rfl, by decide +kernel, rfl, by decide +kernel, by decide +kernel⟩
def dRing (o : Option (List Nat)) : PyData := match o with
  | none => .none
  | some l => dNats l
def dStr (s : Str3) : PyData := .tuple [dI s.1, dI s.2.1, dRing s.2.2]
def R_strain_of (sl : List Sl) (d : PyData) : Prop := ∃ n r sg, sl = [.web n r, .v (dInts sg)] ∧ WebOk n r ∧ d = dStr (strainOf r (ringsD n r) sg)
theorem fwd_le (r : List (Nat × Nat)) (sg : List Int) (ring : List Nat) : fwd r sg ring ≤ ring.length := by
  have := List.length_filter_le (fun p => decide (p ∈ arrowsOf r sg)) (rnd ring)
  rw [rnd_len] at this
  exact this
theorem strainStep_def (r : List (Nat × Nat)) (sg : List Int) (b : Str3) (ring : List Nat) : strainStep r sg b ring = if b.2.2 = none ∨ b.1 * min (fwd r sg ring) (ring.length - fwd r sg ring) < ring.length * b.2.1 then (ring.length / Nat.gcd ring.length (min (fwd r sg ring) (ring.length - fwd r sg ring)), min (fwd r sg ring) (ring.length - fwd r sg ring) / Nat.gcd ring.length (min (fwd r sg ring) (ring.length - fwd r sg ring)), some ring) else b := rfl
theorem strain_small {r : List (Nat × Nat)} {sg : List Int} : ∀ (rings : List (List Nat)), (∀ x ∈ rings, x.length ≤ 7) → ∀ b : Str3, b.1 ≤ 7 → b.2.1 ≤ 7 → (rings.foldl (strainStep r sg) b).1 ≤ 7 ∧ (rings.foldl (strainStep r sg) b).2.1 ≤ 7
  | [], _, b, h1, h2 => ⟨h1, h2⟩
  | x :: rings, h, b, h1, h2 => by
    refine strain_small rings (fun y hy => h y (List.mem_cons_of_mem _ hy)) _ ?_ ?_
    · rw [strainStep_def]
      split
      · exact Nat.le_trans (Nat.div_le_self _ _) (h x List.mem_cons_self)
      · exact h1
    · rw [strainStep_def]
      have hx := h x List.mem_cons_self
      split
      · refine Nat.le_trans (Nat.div_le_self _ _) ?_
        have := fwd_le r sg x
        omega
      · exact h2
theorem ok_strain_of (T : Tp mg) (W : Wb K C) (gR : DFn PP w K mg base C "rings_of" 8 R_rings_of) (gF : DFn PP w K mg base C "forward" 2 R_forward) (gD : DFn PP w K mg base C "reduced" 1 R_reduced) (F : Fun K "strain_of" "strain_of" s_strain_of f fd) : FnOk PP w K mg base CX0 9 f fd ["web", "signs"] (spD C R_strain_of) :=
  mkFn F sc_strain_of (fun sl d ⟨_, _, _, e, _⟩ => by rw [e]; rfl) fun cdv A outer s H E hr sl d hR => by
    obtain ⟨n, r, sg, rfl, wo, rfl⟩ := hR
    have nd := sc_strain_of.nd
    have hshort := rings_short wo
    have hsm : ∀ i, ((ringsD n r).take i).foldl (strainStep r sg) (if r = [] then (1, 1, none) else (2, 1, none)) = ((ringsD n r).take i).foldl (strainStep r sg) (if r = [] then (1, 1, none) else (2, 1, none)) ∧ (((ringsD n r).take i).foldl (strainStep r sg) (if r = [] then (1, 1, none) else (2, 1, none))).1 ≤ 7 ∧ (((ringsD n r).take i).foldl (strainStep r sg) (if r = [] then (1, 1, none) else (2, 1, none))).2.1 ≤ 7 := fun i => by
      refine ⟨rfl, strain_small _ (fun x hx => (hshort x (List.mem_of_mem_take hx)).2) _ ?_ ?_⟩ <;> split <;> decide
    refine db_cons (ds_set 2 (d := dStr (if r = [] then (1, 1, none) else (2, 1, none))) (de_if (dt_cmp (dc_ne hr.units (de_rows W.cl W.nR (dw_name 0)).dr (de_tup da_nil).dr (lay_dRows r).sh (lay_dRows []).sh (by show (!PyData.eqv (dRows r) (dRows [])) = _; rw [eqv_dRows]))) (fun k => ?_) (fun k => ?_)) ?_ nd)
    · have k : ¬ r = [] := by simpa using k
      rw [if_neg k]
      exact de_tup (da_cons de_int (da_cons de_int (da_cons de_non da_nil)))
    · have k : r = [] := by simpa using k
      rw [if_pos k]
      exact de_tup (da_cons de_int (da_cons de_int (da_cons de_non da_nil)))
    refine db_cons (ds_for (fun i env => ∃ x y z, env = [.web n r, .v (dInts sg), .v (dStr (((ringsD n r).take i).foldl (strainStep r sg) (if r = [] then (1, 1, none) else (2, 1, none)))), x, y, z]) PassesOwn.never rfl (di_list (de_call gR hr (das_w (dw_name 0) das_nil) ⟨n, r, rfl, wo, rfl⟩)) ⟨_, _, _, rfl⟩ ?_ ?_)
    · rintro i d env1 hd ⟨x, y, z, rfl⟩
      obtain ⟨ring, hp, rfl⟩ := map_get hd
      have hmem := List.mem_of_getElem? hp
      obtain ⟨hne, h7⟩ := hshort ring hmem
      have hl0 : 0 < ring.length := List.length_pos_iff.mpr hne
      have tk : (ringsD n r).take (i + 1) = (ringsD n r).take i ++ [ring] := by rw [List.take_add_one, hp]; rfl
      rw [tk, List.foldl_append, List.foldl_cons, List.foldl_nil]
      obtain ⟨_, hb1, hb2⟩ := hsm i
      generalize ((ringsD n r).take i).foldl (strainStep r sg) (if r = [] then (1, 1, none) else (2, 1, none)) = best at hb1 hb2
      obtain ⟨b1, b2, b3⟩ := best
      have hf := fwd_le r sg ring
      refine ⟨_, _, dg_name 3 nd, ?_⟩
      refine db_cons (ds_set 4 (de_call gF (hr.mono (by decide)) (das_w (dw_name 0) (das_v (de_name 1) (das_v (de_name 3) das_nil))) ⟨n, r, sg, ring, rfl, wo.len, hne, by omega, rfl⟩) ?_ nd)
      refine db_cons (ds_set 5 (d := dI (min (fwd r sg ring) (ring.length - fwd r sg ring))) ((de_min2 T rfl (de_name 4) (de_sub (de_len T (de_name 3).dq) (de_name 4))).cast ?_) ?_ nd)
      · rw [List.length_map]
        unfold dI
        congr 1
        split <;> omega
      refine db_cons (ds_if (k := decide (b3 = none ∨ b1 * min (fwd r sg ring) (ring.length - fwd r sg ring) < ring.length * b2)) ?_ (fun k => ?_) (fun k => ?_))
      · cases b3 with
        | none =>
          refine (DPW.dt (dw_orT ((dt_cmp (dc_isN (de_ixT (d := .none) (de_name 2) de_int rfl)))))).cast ?_
          exact (decide_eq_true (.inl rfl)).symm
        | some l =>
          refine (DPW.dt (dw_or (dt_cmp (dc_isN (de_ixT (d := dNats l) (de_name 2) de_int rfl))) (dw_or1 (dt_cmp (dc_gt (de_mul (i := ((ring.map dI).length : Nat)) (j := (b2 : Int)) (de_len T (de_name 3).dq) (de_ixT (d := dI b2) (de_name 2) de_int rfl) (.inl (by rw [List.length_map]; omega))) (de_mul (i := (b1 : Int)) (j := ((min (fwd r sg ring) (ring.length - fwd r sg ring) : Nat) : Int)) (de_ixT (d := dI b1) (de_name 2) de_int rfl) (de_name 5) (.inl (by omega)))))))).cast ?_
          rw [List.length_map]
          show (false || _) = _
          rw [Bool.false_or]
          refine decide_eq_decide.mpr ?_
          rw [← Int.natCast_mul, ← Int.natCast_mul, Int.ofNat_lt]
          simp
      · have k := of_decide_eq_true k
        have e : strainStep r sg (b1, b2, b3) ring = (ring.length / Nat.gcd ring.length (min (fwd r sg ring) (ring.length - fwd r sg ring)), min (fwd r sg ring) (ring.length - fwd r sg ring) / Nat.gcd ring.length (min (fwd r sg ring) (ring.length - fwd r sg ring)), some ring) := by
          rw [strainStep_def, if_pos k]
        rw [e]
        refine db_cons (ds_set 2 (de_tup (da_star (de_call gD (hr.mono (by decide)) (das_v (de_len T (de_name 3).dq) (das_v (de_name 5) das_nil)) ⟨ring.length, min (fwd r sg ring) (ring.length - fwd r sg ring), by rw [List.length_map], hl0, by omega, by omega, rfl⟩).dq (da_cons (de_name 3) da_nil)) (by rw [sizeLine_eq]; simp)) (db_nil (db_nil ⟨_, _, _, rfl⟩)) nd)
      · have k := of_decide_eq_false k
        have e : strainStep r sg (b1, b2, b3) ring = (b1, b2, b3) := by rw [strainStep_def, if_neg k]
        rw [e]
        exact db_nil (db_nil ⟨_, _, _, rfl⟩)
    · rintro env1 ⟨x, y, z, rfl⟩
      refine db_cons (ds_ret (de_name 2) ?_)
      rw [List.take_of_length_le (by rw [List.length_map]; exact Nat.le_refl _)]
      rfl
end
end TD
namespace TD
open PySem L2 TS
section
variable {w : World} {K : PySem.W.Frag} {mg : Str → Option Value} {base : Heap} {C : Addr} {f : Addr} {fd : FuncData}
abbrev s_strain : Stmt := top 46
theorem sc_strain : FnScope ["web", "signs"] ["web", "signs"] (defScope s_strain) := ⟨rfl, rfl, rfl, by decide +kernel, rfl, by decide +kernel, by decide +kernel⟩
def R_strain (sl : List Sl) (d : PyData) : Prop := ∃ n r sg, sl = [.web n r, .v (dInts sg)] ∧ WebOk n r ∧ Rl n r sg ∧ d = dStr (strainOf r (ringsD n r) sg)
theorem ok_strain (gC : DFn PP w K mg base C "check_ringless" 4 R_check_ringless) (gS : DFn PP w K mg base C "strain_of" 9 R_strain_of) (F : Fun K "strain" "strain" s_strain f fd) : FnOk PP w K mg base CX0 10 f fd ["web", "signs"] (spD C R_strain) :=
  mkFn F sc_strain (fun sl d ⟨_, _, _, e, _⟩ => by rw [e]; rfl) fun cdv A outer s H E hr sl d hR => by
    obtain ⟨n, r, sg, rfl, wo, so, rfl⟩ := hR
    refine db_cons (ds_expr (de_call gC (hr.mono (by decide)) (das_w (dw_name 0) (das_v (de_name 1) das_nil)) ⟨n, r, sg, rfl, wo, so, rfl⟩) ?_)
    exact db_cons (ds_ret (de_call gS hr (das_w (dw_name 0) (das_v (de_name 1) das_nil)) ⟨n, r, sg, rfl, wo, rfl⟩) rfl)
abbrev s_least_strain : Stmt := top 47
theorem sc_least_strain : FnScope ["web", "best", "signs", "one", "other", "ring"] ["web"] (defScope s_least_strain) := ⟨rfl, rfl, rfl, by decide +kernel, rfl, by decide +kernel, by decide +kernel⟩
def dLs (o : Ls3) : PyData := match o with
  | none => .none
  | some (a, b, s) => .tuple [dI a, dI b, dInts s]
def R_least_strain (sl : List Sl) (d : PyData) : Prop := ∃ n r, sl = [.web n r] ∧ WebOk n r ∧ d = dLs (leastStrain r (ringsD n r) (ringlessSigns n r))
theorem strain_le {n : Nat} {r : List (Nat × Nat)} (wo : WebOk n r) (sg : List Int) : (strainOf r (ringsD n r) sg).1 ≤ 7 ∧ (strainOf r (ringsD n r) sg).2.1 ≤ 7 :=
  strain_small _ (fun x hx => (rings_short wo x hx).2) _ (by split <;> decide) (by split <;> decide)
theorem ok_least_strain (gG : DFn PP w K mg base C "ringless_signs" 4 R_ringless_signs) (gS : DFn PP w K mg base C "strain_of" 9 R_strain_of) (F : Fun K "least_strain" "least_strain" s_least_strain f fd) : FnOk PP w K mg base CX0 10 f fd ["web"] (spD C R_least_strain) :=
  mkFn F sc_least_strain (fun sl d ⟨_, _, e, _⟩ => by rw [e]; rfl) fun cdv A outer s H E hr sl d hR => by
    obtain ⟨n, r, rfl, wo, rfl⟩ := hR
    have nd := sc_least_strain.nd
    refine db_cons (ds_set 1 de_non ?_ nd)
    refine db_cons (ds_for (fun i env => ∃ best x y z u, ((ringlessSigns n r).take i).foldl (leastStep r (ringsD n r)) none = best ∧ (∀ a b s, best = some (a, b, s) → a ≤ 7 ∧ b ≤ 7) ∧ env = [.web n r, .v (dLs best), x, y, z, u]) PassesOwn.never rfl (di_list (de_call gG (hr.mono (by decide)) (das_w (dw_name 0) das_nil) ⟨n, r, rfl, wo, rfl⟩)) ⟨none, _, _, _, _, rfl, (fun _ _ _ e => nomatch e), rfl⟩ ?_ ?_)
    · rintro i d env1 hd ⟨best, x, y, z, u, hbest, hsm, rfl⟩
      obtain ⟨sg, hp, rfl⟩ := map_get hd
      have tk : (ringlessSigns n r).take (i + 1) = (ringlessSigns n r).take i ++ [sg] := by rw [List.take_add_one, hp]; rfl
      have hnext : ((ringlessSigns n r).take (i + 1)).foldl (leastStep r (ringsD n r)) none = leastStep r (ringsD n r) best sg := by rw [tk, List.foldl_append, hbest]; rfl
      obtain ⟨h1, h2⟩ := strain_le wo sg
      rw [hnext]
      unfold leastStep
      refine ⟨_, _, dg_name 2 nd, ?_⟩
      generalize hst : strainOf r (ringsD n r) sg = st at h1 h2
      obtain ⟨s1, s2, s3⟩ := st
      have hst : dStr (strainOf r (ringsD n r) sg) = .tuple [dI s1, dI s2, dRing s3] := by rw [hst]; rfl
      refine db_cons (ds_asg ((de_call gS hr (das_w (dw_name 0) (das_v (de_name 2) das_nil)) ⟨n, r, sg, rfl, wo, rfl⟩).cast hst) (dg_tup rfl (dgs_cons (dg_name 3 nd) (dgs_cons (dg_name 4 nd) (dgs_cons (dg_name 5 nd) dgs_nil)))) ?_)
      cases best with
      | none =>
        refine db_cons (ds_if (k := true) ?_ (fun _ => ?_) (fun k => nomatch k))
        · exact DPW.dt (dw_orT (dt_cmp (dc_isN (de_name (d := dLs none) 1))))
        refine db_cons (ds_set 1 (de_tup (da_cons (de_name 3) (da_cons (de_name 4) (da_cons (de_name 2) da_nil)))) (db_nil (db_nil ⟨some (s1, s2, sg), _, _, _, _, rfl, ?_, rfl⟩)) nd)
        rintro a b s ⟨⟩; exact ⟨h1, h2⟩
      | some b =>
        obtain ⟨b1, b2, b3⟩ := b
        obtain ⟨q1, q2⟩ := hsm _ _ _ rfl
        refine db_cons (ds_if (DPW.dt (dw_or (dt_cmp (dc_isN (de_name 1))) (dw_or1 (dt_cmp (dc_lt (de_mul (i := (s1 : Int)) (j := (b2 : Int)) (de_name 3) (de_ixT (d := dI b2) (de_name 1) de_int rfl) (.inl (by omega))) (de_mul (i := (b1 : Int)) (j := (s2 : Int)) (de_ixT (d := dI b1) (de_name 1) de_int rfl) (de_name 4) (.inl (by omega)))))))) (fun k => ?_) (fun k => ?_))
        · have k : (s1 : Int) * b2 < b1 * s2 := by
            have k : (false || decide ((s1 : Int) * b2 < b1 * s2)) = true := k
            simpa using k
          have k : s1 * b2 < b1 * s2 := by rw [← Int.natCast_mul, ← Int.natCast_mul, Int.ofNat_lt] at k; exact k
          dsimp only
          rw [if_pos k]
          refine db_cons (ds_set 1 (de_tup (da_cons (de_name 3) (da_cons (de_name 4) (da_cons (de_name 2) da_nil)))) (db_nil (db_nil ⟨some (s1, s2, sg), _, _, _, _, rfl, ?_, rfl⟩)) nd)
          rintro a b s ⟨⟩; exact ⟨h1, h2⟩
        · have k : ¬ (s1 : Int) * b2 < b1 * s2 := by
            have k : (false || decide ((s1 : Int) * b2 < b1 * s2)) = false := k
            simpa using k
          have k : ¬ s1 * b2 < b1 * s2 := by rw [← Int.natCast_mul, ← Int.natCast_mul, Int.ofNat_lt] at k; exact k
          dsimp only
          rw [if_neg k]
          refine db_nil (db_nil ⟨some (b1, b2, b3), _, _, _, _, rfl, ?_, rfl⟩)
          rintro a b s ⟨⟩; exact ⟨q1, q2⟩
    · rintro env1 ⟨best, x, y, z, u, hbest, hsm, rfl⟩
      refine db_cons (ds_ret (de_name 1) ?_)
      rw [← hbest, List.take_of_length_le (by rw [List.length_map]; exact Nat.le_refl _)]
      rfl
abbrev s_least_clock : Stmt := top 53
theorem sc_least_clock : FnScope ["web"] ["web"] (defScope s_least_clock) := ⟨rfl, rfl, rfl, by decide +kernel, rfl, by decide +kernel, by decide +kernel⟩
def R_least_clock (sl : List Sl) (d : PyData) : Prop := ∃ n r a b s, sl = [.web n r] ∧ WebOk n r ∧ leastStrain r (ringsD n r) (ringlessSigns n r) = some (a, b, s) ∧ d = .tuple [dI a, dI b]
theorem ok_least_clock (gS : DFn PP w K mg base C "least_strain" 10 R_least_strain) (F : Fun K "least_clock" "least_clock" s_least_clock f fd) : FnOk PP w K mg base CX0 11 f fd ["web"] (spD C R_least_clock) :=
  mkFn F sc_least_clock (fun sl d ⟨_, _, _, _, _, e, _⟩ => by rw [e]; rfl) fun cdv A outer s H E hr sl d hR => by
    obtain ⟨n, r, a, b, sg, rfl, wo, hs, rfl⟩ := hR
    refine db_cons (ds_ret (de_sliceT (l := none) (h := some 2) ((de_call gS hr (das_w (dw_name 0) das_nil) ⟨n, r, rfl, wo, rfl⟩).cast (?_ : _ = PyData.tuple [dI a, dI b, dInts sg])) ?_ ?_) ?_)
    · rw [hs]; rfl
    · trivial
    · exact de_int
    · rfl
abbrev s_are_times : Stmt := top 49
theorem sc_are_times : FnScope ["web", "hours", "apart", "value", "one", "other"] ["web", "hours", "apart", "value"] (defScope s_are_times) := ⟨rfl, rfl, rfl, by decide +kernel, rfl, by decide +kernel, by decide +kernel⟩
def R_are_times (sl : List Sl) (d : PyData) : Prop := ∃ (n : Nat) (r : List (Nat × Nat)) (h a : Nat) (ts : List Int), sl = [.web n r, .v (dI h), .v (dI a), .v (dInts ts)] ∧ WebOk n r ∧ ts.length = n ∧ (∀ t ∈ ts, 0 ≤ t ∧ t ≤ (h : Int) - 1) ∧ d = .bool (areTimes r h a ts)
theorem ok_are_times (T : Tp mg) (W : Wb K C) (gI : DFn PP w K mg base C "is_from" 1 R_is_from) (F : Fun K "are_times" "are_times" s_are_times f fd) : FnOk PP w K mg base CX0 2 f fd ["web", "hours", "apart", "value"] (spD C R_are_times) :=
  mkFn F sc_are_times (fun sl d ⟨_, _, _, _, _, e, _⟩ => by rw [e]; rfl) fun cdv A outer s H E hr sl d hR => by
    obtain ⟨n, r, h, a, ts, rfl, wo, hl, hrg, rfl⟩ := hR
    have nd := sc_are_times.nd
    have h6 := wo.le
    have h10 := wo.len
    refine db_cons (ds_if (DPW.dt (dw_or (dt_not (dt_val (de_isi T (de_name 3) T.tuple boot_tuple_ rfl))) (dw_or (dt_cmp (dc_neI (de_len T (de_name 3).dq) (de_many W.cl W.nM (dw_name 0)))) (dw_or1 (dt_not (dt_val (de_allC T [("one", 4)] .int ts (fun x => (decide (0 ≤ x) && decide (x ≤ (h : Int) - 1))) rfl sc_are_times (di_tup (de_name 3)) (by omega) fun x hx => ⟨_, _, ?_, ?_, fun s H Cc cl fp => ⟨dg_name 4 nd, ?_⟩⟩))))))) (fun k => ?_) (fun _ => ?_))
    · decide
    · rfl
    · exact de_call gI hr (das_v (de_name 4) (das_v de_int (das_v (de_sub (de_name 1) de_int) das_nil))) ⟨x, 0, (h : Int) - 1, rfl, rfl⟩
    · exfalso
      have e : ts.all (fun x => (decide (0 ≤ x) && decide (x ≤ (h : Int) - 1))) = true := List.all_eq_true.mpr fun x hx => by have := hrg x hx; simp; omega
      rw [e] at k
      simp [hl] at k
    · refine db_nil (db_cons (ds_ret (de_allC T [("one", 4), ("other", 5)] dP r (fun p => away h a (ab (gt ts p.1 - gt ts p.2))) rfl sc_are_times (di_tup (de_rows W.cl W.nR (dw_name 0))) (by omega) fun p hp => ⟨_, _, ?_, ?_, fun s H Cc cl fp => ⟨dg_tup rfl (dgs_cons (dg_name 4 nd) (dgs_cons (dg_name 5 nd) dgs_nil)), ?_⟩⟩) rfl))
      · decide
      · rfl
      · have hpp := wo.lt p hp
        exact de_chain (de_name 2) (de_abs T (de_sub (de_ixT (de_name 3) (de_name 4) (atI_ints (by rw [hl]; omega))) (de_ixT (de_name 3) (de_name 5) (atI_ints (by rw [hl]; omega))))) (de_sub (de_name 1) (de_name 2))
abbrev s_is_timed : Stmt := top 50
theorem sc_is_timed : FnScope ["web", "hours", "apart", "value"] ["web", "hours", "apart", "value"] (defScope s_is_timed) := ⟨rfl, rfl, rfl, by decide +kernel, rfl, by decide +kernel, by decide +kernel⟩
def R_is_timed (sl : List Sl) (d : PyData) : Prop := ∃ (n : Nat) (r : List (Nat × Nat)) (h a : Nat) (ts : List Int), sl = [.web n r, .v (dI h), .v (dI a), .v (dInts ts)] ∧ WebOk n r ∧ HrOk h a ∧ ts.length = n ∧ (∀ t ∈ ts, 0 ≤ t ∧ t ≤ (h : Int) - 1) ∧ d = .bool (areTimes r h a ts)
theorem ok_is_timed (gC : DFn PP w K mg base C "check_clock" 2 R_check_clock) (gA : DFn PP w K mg base C "are_times" 2 R_are_times) (F : Fun K "is_timed" "is_timed" s_is_timed f fd) : FnOk PP w K mg base CX0 3 f fd ["web", "hours", "apart", "value"] (spD C R_is_timed) :=
  mkFn F sc_is_timed (fun sl d ⟨_, _, _, _, _, e, _⟩ => by rw [e]; rfl) fun cdv A outer s H E hr sl d hR => by
    obtain ⟨n, r, h, a, ts, rfl, wo, ho, hl, hrg, rfl⟩ := hR
    refine db_cons (ds_expr (de_call gC hr (das_v (de_name 1) (das_v (de_name 2) das_nil)) ⟨h, a, rfl, ho, rfl⟩) ?_)
    exact db_cons (ds_ret (de_call gA hr (das_w (dw_name 0) (das_v (de_name 1) (das_v (de_name 2) (das_v (de_name 3) das_nil)))) ⟨n, r, h, a, ts, rfl, wo, hl, hrg, rfl⟩) rfl)
end
end TD
namespace TD
open PySem L2 TS
theorem fs_none {α : Type} {G : Nat → Option α} {m : Nat} (h : ∀ t, t < m → G t = none) : (List.range m).findSome? G = none := by
  rw [List.findSome?_eq_none_iff]
  exact fun t ht => h t (List.mem_range.mp ht)
theorem fs_hit {α : Type} {G : Nat → Option α} {i : Nat} {x : α} (h : ∀ t, t < i → G t = none) (hg : G i = some x) : ∀ m, i < m → (List.range m).findSome? G = some x
  | 0, hi => by omega
  | m + 1, hi => by
    rw [List.range_succ, List.findSome?_append]
    by_cases q : i < m
    · rw [fs_hit h hg m q]; rfl
    · have : i = m := by omega
      subst this
      rw [fs_none h]
      simp [hg]
theorem firstOn_len {ok : List Int → Int → Bool} {m : Nat} : ∀ (j : Nat) (ts g : List Int), firstOn ok m j ts = some g → g.length = ts.length + j
  | 0, ts, g, h => by cases h; rfl
  | j + 1, ts, g, h => by
    obtain ⟨t, _, h⟩ := List.exists_of_findSome?_eq_some h
    split at h
    · have := firstOn_len j _ _ h
      rw [List.length_append, List.length_singleton] at this; omega
    · cases h
section
variable {w : World} {K : PySem.W.Frag} {mg : Str → Option Value} {base : Heap} {C : Addr} {f : Addr} {fd : FuncData}
theorem near_ints {r : List (Nat × Nat)} {ts : List Int} : ((r.filter fun p => decide (p.2 = ts.length)).map fun p => PyData.int (gt ts p.1)) = (nearOf r ts).map .int := by
  unfold nearOf; rw [List.map_map]; rfl
theorem near_len (r : List (Nat × Nat)) (ts : List Int) : (nearOf r ts).length ≤ r.length := by
  unfold nearOf; rw [List.length_map]; exact List.length_filter_le _ _
abbrev s_times_on : Stmt := top 51
theorem sc_times_on : FnScope ["web", "hours", "apart", "times", "place", "near", "time", "found", "one", "other"] ["web", "hours", "apart", "times"] (defScope s_times_on) := ⟨rfl, rfl, rfl, by decide +kernel, rfl, by decide +kernel, by decide +kernel⟩
def R_times_on (j : Nat) (sl : List Sl) (d : PyData) : Prop := ∃ (n : Nat) (r : List (Nat × Nat)) (h a : Nat) (ts : List Int), sl = [.web n r, .v (dI h), .v (dI a), .v (dInts ts)] ∧ WebOk n r ∧ h ≤ 12 ∧ ts.length + j = n ∧ d = dOpt (firstOn (timesOk r h a) h j ts)
theorem isNone_dOpt (o : Option (List Int)) : isNone (dOpt o) = o.isNone := by cases o <;> rfl
theorem ok_times_step (T : Tp mg) (W : Wb K C) (j : Nat) (gW : ∀ i, j = i + 1 → DFn PP w K mg base C "times_on" j (R_times_on i)) (F : Fun K "times_on" "times_on" s_times_on f fd) : FnOk PP w K mg base CX0 (j + 1) f fd ["web", "hours", "apart", "times"] (spD C (R_times_on j)) :=
  mkFn F sc_times_on (fun sl d ⟨_, _, _, _, _, e, _⟩ => by rw [e]; rfl) fun cdv A outer s H E hr sl d hR => by
    obtain ⟨n, r, h, a, ts, rfl, wo, h12, hln, rfl⟩ := hR
    have nd := sc_times_on.nd
    have h6 := wo.le
    have h10 := wo.len
    refine db_cons (ds_set 4 ((de_len T (de_name 3).dq).cast (?_ : _ = dI ts.length)) ?_ nd)
    · rw [List.length_map]
    refine db_cons (ds_if (k := decide (j = 0)) ((dt_cmp (dc_eqI (de_name 4) (de_many W.cl W.nM (dw_name 0)))).cast (decide_eq_decide.mpr (by omega))) (fun k => ?_) (fun k => ?_))
    · have k := of_decide_eq_true k
      subst k
      exact db_cons (ds_ret (de_name 3) rfl)
    have k := of_decide_eq_false k
    obtain ⟨i, rfl⟩ : ∃ i, j = i + 1 := ⟨j - 1, by omega⟩
    refine db_nil (db_cons (ds_setLc 5 [("one", 8), ("other", 9)] dP r (fun p => decide (p.2 = ts.length)) (fun p => .int (gt ts p.1)) rfl sc_times_on (di_tup (de_rows W.cl W.nR (dw_name 0))) (by omega) (fun p hp => ⟨_, _, ?_, ?_, fun s H Cc cl fp => ⟨dg_tup rfl (dgs_cons (dg_name 8 nd) (dgs_cons (dg_name 9 nd) dgs_nil)), dts_one ?_, fun kp => ?_⟩⟩) ?_))
    · decide
    · rfl
    · exact (dt_cmp (dc_eqI (de_name 9) (de_name 4))).cast (decide_eq_decide.mpr Int.ofNat_inj)
    · have kp : p.2 = ts.length := of_decide_eq_true kp
      have := wo.lt p hp
      exact de_ixT (de_name 3) (de_name 8) (atI_ints (by omega))
    rw [near_ints]
    have hn := near_len r ts
    refine db_cons (ds_for (fun t env => (∀ u, u < t → (if timesOk r h a ts (u : Int) = true then firstOn (timesOk r h a) h i (ts ++ [(u : Int)]) else none) = none) ∧ ∃ x y u v, env = [.web n r, .v (dI h), .v (dI a), .v (dInts ts), .v (dI ts.length), .v (.list ((nearOf r ts).map .int)), x, y, u, v]) PassesOwn.never rfl ((di_range1 T (de_name 1) ⟨by omega, by omega⟩).cast (?_ : _ = (List.range h).map dI)) ⟨fun u hu => by omega, _, _, _, _, rfl⟩ ?_ ?_)
    · unfold dRange dI; rw [Int.toNat_natCast]; simp
    · rintro t d env1 hd ⟨hpre, x, y, u, v, rfl⟩
      obtain ⟨t', ht, rfl⟩ := map_get hd
      have htm : t < h := by have := (List.getElem?_eq_some_iff.mp ht).1; rw [List.length_range] at this; exact this
      rw [List.getElem?_range htm] at ht
      cases ht
      refine ⟨_, _, dg_name 6 nd, ?_⟩
      refine db_cons (ds_if (k := timesOk r h a ts (t : Int)) (dt_val (de_allC T [("other", 9)] .int (nearOf r ts) (fun o => away h a (ab ((t : Int) - o))) rfl sc_times_on (di_list (de_name 5)) (by omega) fun o ho => ⟨_, _, ?_, ?_, fun s H Cc cl fp => ⟨dg_name 9 nd, ?_⟩⟩)) (fun k => ?_) (fun k => ?_))
      · decide
      · rfl
      · exact de_chain (de_name 2) (de_abs T (de_sub (de_name 6) (de_name 9))) (de_sub (de_name 1) (de_name 2))
      · refine db_cons (ds_set 7 (de_call (gW i rfl) hr (das_w (dw_name 0) (das_v (de_name 1) (das_v (de_name 2) (das_v ((de_tup (da_star (de_name 3).dq (da_cons (de_name 6) da_nil)) ?_).cast (?_ : _ = dInts (ts ++ [(t : Int)]))) das_nil)))) ⟨n, r, h, a, ts ++ [(t : Int)], rfl, wo, h12, ?_, rfl⟩) ?_ nd)
        · rw [List.length_append, List.length_map, sizeLine_eq]; simp; omega
        · unfold dInts; rw [List.map_append]; rfl
        · rw [List.length_append, List.length_singleton]; omega
        · refine db_cons (ds_if (dt_cmp (dc_notN (de_name 7))) (fun k2 => ?_) (fun k2 => ?_))
          · rw [isNone_dOpt] at k2
            refine db_cons (ds_ret (de_name 7) ?_)
            cases hf : firstOn (timesOk r h a) h i (ts ++ [(t : Int)]) with
            | none => rw [hf] at k2; cases k2
            | some g =>
              show dOpt (some g) = dOpt ((List.range h).findSome? _)
              rw [fs_hit (G := fun (u : Nat) => if timesOk r h a ts (u : Int) = true then firstOn (timesOk r h a) h i (ts ++ [(u : Int)]) else none) hpre (by rw [if_pos k]; exact hf) h htm]
          · rw [isNone_dOpt] at k2
            refine db_nil (db_nil (db_nil ⟨fun u hu => ?_, _, _, _, _, rfl⟩))
            by_cases q : u < t
            · exact hpre u q
            · have : u = t := by omega
              subst this
              rw [if_pos k]
              cases hf : firstOn (timesOk r h a) h i (ts ++ [(u : Int)]) with
              | none => rfl
              | some g => rw [hf] at k2; cases k2
      · refine db_nil (db_nil ⟨fun u hu => ?_, _, _, _, _, rfl⟩)
        by_cases q : u < t
        · exact hpre u q
        · have : u = t := by omega
          subst this
          rw [if_neg (by rw [k]; decide)]
    · rintro env1 ⟨hpre, x, y, u, v, rfl⟩
      refine db_cons (ds_ret de_non ?_)
      rw [List.length_map, List.length_range] at hpre
      show PyData.none = dOpt ((List.range h).findSome? _)
      rw [fs_none hpre]
      rfl
theorem ok_times_on (T : Tp mg) (W : Wb K C) (F : Fun K "times_on" "times_on" s_times_on f fd) (hm : mg "times_on" = some (.ref f)) (hb : Binds K fd ["web", "hours", "apart", "times"] []) : ∀ j, DFn PP w K mg base C "times_on" (j + 1) (R_times_on j)
  | 0 => .of (ok_times_step T W 0 (fun i e => by omega) F) hm F.kp hb
  | j + 1 => .of (ok_times_step T W (j + 1) (fun i e => by cases e; exact ok_times_on T W F hm hb j) F) hm F.kp hb
abbrev s_clock : Stmt := top 52
theorem sc_clock : FnScope ["web", "hours", "apart"] ["web", "hours", "apart"] (defScope s_clock) := ⟨rfl, rfl, rfl, by decide +kernel, rfl, by decide +kernel, by decide +kernel⟩
def R_clock (sl : List Sl) (d : PyData) : Prop := ∃ n r h a, sl = [.web n r, .v (dI h), .v (dI a)] ∧ WebOk n r ∧ HrOk h a ∧ d = dOpt (clockOf n r h a)
theorem ok_clock (gC : DFn PP w K mg base C "check_clock" 2 R_check_clock) (gT : ∀ j, DFn PP w K mg base C "times_on" (j + 1) (R_times_on j)) (F : Fun K "clock" "clock" s_clock f fd) : FnOk PP w K mg base CX0 8 f fd ["web", "hours", "apart"] (spD C R_clock) :=
  mkFn F sc_clock (fun sl d ⟨_, _, _, _, e, _⟩ => by rw [e]; rfl) fun cdv A outer s H E hr sl d hR => by
    obtain ⟨n, r, h, a, rfl, wo, ho, rfl⟩ := hR
    have h6 := wo.le
    refine db_cons (ds_expr (de_call gC (hr.mono (by decide)) (das_v (de_name 1) (das_v (de_name 2) das_nil)) ⟨h, a, rfl, ho, rfl⟩) ?_)
    exact db_cons (ds_ret (de_call (gT n) (hr.mono (by omega)) (das_w (dw_name 0) (das_v (de_name 1) (das_v (de_name 2) (das_v (de_tup da_nil) das_nil)))) ⟨n, r, h, a, [], rfl, wo, ho.hi, by simp, rfl⟩) rfl)
end
end TD
namespace TD
open PySem L2 TS
section
variable {w : World} {K : PySem.W.Frag} {mg : Str → Option Value} {base : Heap} {C : Addr} {f : Addr} {fd : FuncData}
abbrev s_colour_on : Stmt := top 59
theorem sc_colour_on : FnScope ["web", "colours", "many", "place", "barred", "colour", "found", "one", "other"] ["web", "colours", "many"] (defScope s_colour_on) := ⟨rfl, rfl, rfl, by decide +kernel, rfl, by decide +kernel, by decide +kernel⟩
def R_colour_on (j : Nat) (sl : List Sl) (d : PyData) : Prop := ∃ (n : Nat) (r : List (Nat × Nat)) (h : Nat) (ts : List Int), sl = [.web n r, .v (dInts ts), .v (dI h)] ∧ WebOk n r ∧ h ≤ 12 ∧ ts.length + j = n ∧ d = dOpt (firstOn (colourOk r) h j ts)
theorem ok_colour_step (T : Tp mg) (W : Wb K C) (j : Nat) (gW : ∀ i, j = i + 1 → DFn PP w K mg base C "colour_on" j (R_colour_on i)) (F : Fun K "colour_on" "colour_on" s_colour_on f fd) : FnOk PP w K mg base CX0 (j + 1) f fd ["web", "colours", "many"] (spD C (R_colour_on j)) :=
  mkFn F sc_colour_on (fun sl d ⟨_, _, _, _, e, _⟩ => by rw [e]; rfl) fun cdv A outer s H E hr sl d hR => by
    obtain ⟨n, r, h, ts, rfl, wo, h12, hln, rfl⟩ := hR
    have nd := sc_colour_on.nd
    have h6 := wo.le
    have h10 := wo.len
    refine db_cons (ds_set 3 ((de_len T (de_name 1).dq).cast (?_ : _ = dI ts.length)) ?_ nd)
    · rw [List.length_map]
    refine db_cons (ds_if (k := decide (j = 0)) ((dt_cmp (dc_eqI (de_name 3) (de_many W.cl W.nM (dw_name 0)))).cast (decide_eq_decide.mpr (by omega))) (fun k => ?_) (fun k => ?_))
    · have k := of_decide_eq_true k
      subst k
      exact db_cons (ds_ret (de_name 1) rfl)
    have k := of_decide_eq_false k
    obtain ⟨i, rfl⟩ : ∃ i, j = i + 1 := ⟨j - 1, by omega⟩
    refine db_nil (db_cons (ds_setLc 4 [("one", 7), ("other", 8)] dP r (fun p => decide (p.2 = ts.length)) (fun p => .int (gt ts p.1)) rfl sc_colour_on (di_tup (de_rows W.cl W.nR (dw_name 0))) (by omega) (fun p hp => ⟨_, _, ?_, ?_, fun s H Cc cl fp => ⟨dg_tup rfl (dgs_cons (dg_name 7 nd) (dgs_cons (dg_name 8 nd) dgs_nil)), dts_one ?_, fun kp => ?_⟩⟩) ?_))
    · decide
    · rfl
    · exact (dt_cmp (dc_eqI (de_name 8) (de_name 3))).cast (decide_eq_decide.mpr Int.ofNat_inj)
    · have kp : p.2 = ts.length := of_decide_eq_true kp
      have := wo.lt p hp
      exact de_ixT (de_name 1) (de_name 7) (atI_ints (by omega))
    rw [near_ints]
    have hn := near_len r ts
    refine db_cons (ds_for (fun t env => (∀ u, u < t → (if colourOk r ts (u : Int) = true then firstOn (colourOk r) h i (ts ++ [(u : Int)]) else none) = none) ∧ ∃ x y u v, env = [.web n r, .v (dInts ts), .v (dI h), .v (dI ts.length), .v (.list ((nearOf r ts).map .int)), x, y, u, v]) PassesOwn.never rfl ((di_range1 T (de_name 2) ⟨by omega, by omega⟩).cast (?_ : _ = (List.range h).map dI)) ⟨fun u hu => by omega, _, _, _, _, rfl⟩ ?_ ?_)
    · unfold dRange dI; rw [Int.toNat_natCast]; simp
    · rintro t d env1 hd ⟨hpre, x, y, u, v, rfl⟩
      obtain ⟨t', ht, rfl⟩ := map_get hd
      have htm : t < h := by have := (List.getElem?_eq_some_iff.mp ht).1; rw [List.length_range] at this; exact this
      rw [List.getElem?_range htm] at ht
      cases ht
      refine ⟨_, _, dg_name 5 nd, ?_⟩
      refine db_cons (ds_if (k := colourOk r ts (t : Int)) (dt_cmp (dc_notInI (de_name 5) (de_name 4).dq')) (fun k => ?_) (fun k => ?_))
      · refine db_cons (ds_set 6 (de_call (gW i rfl) hr (das_w (dw_name 0) (das_v ((de_tup (da_star (de_name 1).dq (da_cons (de_name 5) da_nil)) ?_).cast (?_ : _ = dInts (ts ++ [(t : Int)]))) (das_v (de_name 2) das_nil))) ⟨n, r, h, ts ++ [(t : Int)], rfl, wo, h12, ?_, rfl⟩) ?_ nd)
        · rw [List.length_append, List.length_map, sizeLine_eq]; simp; omega
        · unfold dInts; rw [List.map_append]; rfl
        · rw [List.length_append, List.length_singleton]; omega
        · refine db_cons (ds_if (dt_cmp (dc_notN (de_name 6))) (fun k2 => ?_) (fun k2 => ?_))
          · rw [isNone_dOpt] at k2
            refine db_cons (ds_ret (de_name 6) ?_)
            cases hf : firstOn (colourOk r) h i (ts ++ [(t : Int)]) with
            | none => rw [hf] at k2; cases k2
            | some g =>
              show dOpt (some g) = dOpt ((List.range h).findSome? _)
              rw [fs_hit (G := fun (u : Nat) => if colourOk r ts (u : Int) = true then firstOn (colourOk r) h i (ts ++ [(u : Int)]) else none) hpre (by rw [if_pos k]; exact hf) h htm]
          · rw [isNone_dOpt] at k2
            refine db_nil (db_nil (db_nil ⟨fun u hu => ?_, _, _, _, _, rfl⟩))
            by_cases q : u < t
            · exact hpre u q
            · have : u = t := by omega
              subst this
              rw [if_pos k]
              cases hf : firstOn (colourOk r) h i (ts ++ [(u : Int)]) with
              | none => rfl
              | some g => rw [hf] at k2; cases k2
      · refine db_nil (db_nil ⟨fun u hu => ?_, _, _, _, _, rfl⟩)
        by_cases q : u < t
        · exact hpre u q
        · have : u = t := by omega
          subst this
          rw [if_neg (by rw [k]; decide)]
    · rintro env1 ⟨hpre, x, y, u, v, rfl⟩
      refine db_cons (ds_ret de_non ?_)
      rw [List.length_map, List.length_range] at hpre
      show PyData.none = dOpt ((List.range h).findSome? _)
      rw [fs_none hpre]
      rfl
theorem ok_colour_on (T : Tp mg) (W : Wb K C) (F : Fun K "colour_on" "colour_on" s_colour_on f fd) (hm : mg "colour_on" = some (.ref f)) (hb : Binds K fd ["web", "colours", "many"] []) : ∀ j, DFn PP w K mg base C "colour_on" (j + 1) (R_colour_on j)
  | 0 => .of (ok_colour_step T W 0 (fun i e => by omega) F) hm F.kp hb
  | j + 1 => .of (ok_colour_step T W (j + 1) (fun i e => by cases e; exact ok_colour_on T W F hm hb j) F) hm F.kp hb
abbrev s_colouring : Stmt := top 60
theorem sc_colouring : FnScope ["web", "many"] ["web", "many"] (defScope s_colouring) := ⟨rfl, rfl, rfl, by decide +kernel, rfl, by decide +kernel, by decide +kernel⟩
def R_colouring (sl : List Sl) (d : PyData) : Prop := ∃ (n : Nat) (r : List (Nat × Nat)) (m : Nat), sl = [.web n r, .v (dI m)] ∧ WebOk n r ∧ 1 ≤ m ∧ m ≤ 6 ∧ d = dOpt (colouringOf n r m)
theorem ok_colouring (gC : DFn PP w K mg base C "check_few" 2 R_check_few) (gT : ∀ j, DFn PP w K mg base C "colour_on" (j + 1) (R_colour_on j)) (F : Fun K "colouring" "colouring" s_colouring f fd) : FnOk PP w K mg base CX0 8 f fd ["web", "many"] (spD C R_colouring) :=
  mkFn F sc_colouring (fun sl d ⟨_, _, _, e, _⟩ => by rw [e]; rfl) fun cdv A outer s H E hr sl d hR => by
    obtain ⟨n, r, m, rfl, wo, h1, hm, rfl⟩ := hR
    have h6 := wo.le
    refine db_cons (ds_expr (de_call gC (hr.mono (by decide)) (das_v (de_name 1) das_nil) ⟨m, rfl, h1, hm, rfl⟩) ?_)
    exact db_cons (ds_ret (de_call (gT n) (hr.mono (by omega)) (das_w (dw_name 0) (das_v (de_tup da_nil) (das_v (de_name 1) das_nil))) ⟨n, r, m, [], rfl, wo, by omega, by simp, rfl⟩) rfl)
abbrev s_least_of : Stmt := top 61
theorem sc_least_of : FnScope ["web", "many"] ["web"] (defScope s_least_of) := ⟨rfl, rfl, rfl, by decide +kernel, rfl, by decide +kernel, by decide +kernel⟩
def R_least_of (sl : List Sl) (d : PyData) : Prop := ∃ (n : Nat) (r : List (Nat × Nat)) (m : Nat) (t : List Nat), sl = [.web n r] ∧ WebOk n r ∧ leastOf n r = m :: t ∧ d = dI m
theorem ok_least_of (T : Tp mg) (W : Wb K C) (gT : ∀ j, DFn PP w K mg base C "colour_on" (j + 1) (R_colour_on j)) (F : Fun K "least_of" "least_of" s_least_of f fd) : FnOk PP w K mg base CX0 8 f fd ["web"] (spD C R_least_of) :=
  mkFn F sc_least_of (fun sl d ⟨_, _, _, _, e, _⟩ => by rw [e]; rfl) fun cdv A outer s H E hr sl d hR => by
    obtain ⟨n, r, m, t, rfl, wo, hm, rfl⟩ := hR
    have nd := sc_least_of.nd
    have h6 := wo.le
    refine db_cons (ds_ret (de_ixL (dn_filt [("many", 1)] dI ((List.range n).map (· + 1)) (fun m => (colouringOf n r m).isSome) dI rfl sc_least_of ((di_range2 T de_int (de_add (de_many W.cl W.nM (dw_name 0)) de_int) ⟨by omega, by omega, by omega, by omega⟩).cast ?_) ?_ fun a ha => ⟨_, _, ?_, ?_, fun s H Cc cl fp => ⟨dg_name 1 nd, ?_, fun _ => de_name 1⟩⟩).dl de_int (?_ : _ = some (dI m))) rfl)
    · unfold dRange dI
      have : ((n : Int) + 1 - 1).toNat = n := by omega
      rw [this, List.map_map]
      refine List.map_congr_left fun x _ => ?_
      show PyData.int _ = PyData.int _
      congr 1
      simp; omega
    · rw [List.length_map, List.length_range]; omega
    · decide
    · rfl
    · have hn : a ≤ 6 := by
        obtain ⟨x, hx, rfl⟩ := List.mem_map.mp ha
        have := List.mem_range.mp hx
        show x + 1 ≤ 6
        omega
      refine (dt_cmp (dc_notN (de_call (gT n) (hr.mono (by omega)) (das_w (dw_name 0) (das_v (de_tup da_nil) (das_v (de_name 1) das_nil))) ⟨n, r, a, [], rfl, wo, by omega, by simp, rfl⟩))).cast ?_
      rw [isNone_dOpt]
      show (!(colouringOf n r a).isNone) = _
      cases colouringOf n r a <;> rfl
    · have e : ((List.range n).map (· + 1)).filter (fun m => (colouringOf n r m).isSome) = m :: t := hm
      rw [e]; exact atI_nats (l := m :: t) (i := 0) (by simp)
abbrev s_least : Stmt := top 62
theorem sc_least : FnScope ["web"] ["web"] (defScope s_least) := ⟨rfl, rfl, rfl, by decide +kernel, rfl, by decide +kernel, by decide +kernel⟩
theorem ok_least (gL : DFn PP w K mg base C "least_of" 8 R_least_of) (F : Fun K "least" "least" s_least f fd) : FnOk PP w K mg base CX0 9 f fd ["web"] (spD C R_least_of) :=
  mkFn F sc_least (fun sl d ⟨_, _, _, _, e, _⟩ => by rw [e]; rfl) fun cdv A outer s H E hr sl d hR => by
    obtain ⟨n, r, m, t, rfl, wo, hm, rfl⟩ := hR
    exact db_cons (ds_ret (de_call gL hr (das_w (dw_name 0) das_nil) ⟨n, r, m, t, rfl, wo, hm, rfl⟩) rfl)
abbrev s_paper : Stmt := top 63
theorem sc_paper : FnScope ["web", "many", "found", "signs"] ["web", "many"] (defScope s_paper) := ⟨rfl, rfl, rfl, by decide +kernel, rfl, by decide +kernel, by decide +kernel⟩
def R_paper (sl : List Sl) (d : PyData) : Prop := ∃ (n : Nat) (r : List (Nat × Nat)) (m : Nat) (cs : List Int), sl = [.web n r, .v (dI m)] ∧ WebOk n r ∧ 1 ≤ m ∧ m ≤ 6 ∧ colouringOf n r m = some cs ∧ d = .tuple [.str "colours", dInts cs]
theorem ok_paper {tk : Tok} (gM : mg "COLOURS" = some (.str "colours" tk)) (gC : DFn PP w K mg base C "check_few" 2 R_check_few) (gT : ∀ j, DFn PP w K mg base C "colour_on" (j + 1) (R_colour_on j)) (F : Fun K "paper" "paper" s_paper f fd) : FnOk PP w K mg base CX0 8 f fd ["web", "many"] (spD C R_paper) :=
  mkFn F sc_paper (fun sl d ⟨_, _, _, _, e, _⟩ => by rw [e]; rfl) fun cdv A outer s H E hr sl d hR => by
    obtain ⟨n, r, m, cs, rfl, wo, h1, hm, hc, rfl⟩ := hR
    have nd := sc_paper.nd
    have h6 := wo.le
    refine db_cons (ds_expr (de_call gC (hr.mono (by decide)) (das_v (de_name 1) das_nil) ⟨m, rfl, h1, hm, rfl⟩) ?_)
    refine db_cons (ds_set 2 ((de_call (gT n) (hr.mono (by omega)) (das_w (dw_name 0) (das_v (de_tup da_nil) (das_v (de_name 1) das_nil))) ⟨n, r, m, [], rfl, wo, by omega, by simp, rfl⟩).cast (?_ : _ = dInts cs)) ?_ nd)
    · show dOpt (colouringOf n r m) = _
      rw [hc]; rfl
    refine db_cons (ds_if (k := true) (dt_cmp (dc_notN (de_name (d := dInts cs) 2))) (fun _ => ?_) (fun k => nomatch k))
    exact db_cons (ds_ret (de_tup (da_cons (de_globS gM) (da_cons (de_name 2) da_nil))) rfl)
abbrev s_shows : Stmt := top 66
theorem sc_shows : FnScope ["web", "many", "value"] ["web", "many", "value"] (defScope s_shows) := ⟨rfl, rfl, rfl, by decide +kernel, rfl, by decide +kernel, by decide +kernel⟩
def R_shows (sl : List Sl) (d : PyData) : Prop := ∃ (n : Nat) (r : List (Nat × Nat)) (m : Nat) (cs : List Int), sl = [.web n r, .v (dI m), .v (.tuple [.str "colours", dInts cs])] ∧ WebOk n r ∧ 1 ≤ m ∧ m ≤ 6 ∧ ColOk n r cs ∧ (∀ c ∈ cs, c < (m : Int)) ∧ d = .bool true
theorem ok_shows (T : Tp mg) {tk : Tok} (gM : mg "COLOURS" = some (.str "colours" tk)) (gC : DFn PP w K mg base C "check_few" 2 R_check_few) (gA : DFn PP w K mg base C "are_colours" 2 R_are_colours) (F : Fun K "shows" "shows" s_shows f fd) : FnOk PP w K mg base CX0 3 f fd ["web", "many", "value"] (spD C R_shows) :=
  mkFn F sc_shows (fun sl d ⟨_, _, _, _, e, _⟩ => by rw [e]; rfl) fun cdv A outer s H E hr sl d hR => by
    obtain ⟨n, r, m, cs, rfl, wo, h1, hm, co, hc, rfl⟩ := hR
    have nd := sc_shows.nd
    have hu := hr.units
    obtain ⟨c, t, rfl⟩ : ∃ c t, cs = c :: t := by
      cases cs with
      | nil => exact absurd co.len (by have := wo.pos; show ¬ (0 = n); omega)
      | cons c t => exact ⟨c, t, rfl⟩
    refine db_cons (ds_expr (de_call gC hr (das_v (de_name 1) das_nil) ⟨m, rfl, h1, hm, rfl⟩) ?_)
    refine db_cons (ds_if (k := false) ?_ (fun k => nomatch k) (fun _ => ?_))
    · exact DPW.dt (dw_or (k := false) (k' := false) ((dt_not (dt_val (de_isi T (de_name (d := .tuple [.str "colours", dInts (c :: t)]) 2) T.tuple boot_tuple_ rfl)))) (dw_or (k := false) (k' := false) (dt_cmp (dc_neI (i := 2) (j := 2) (de_len T (de_name (d := .tuple [.str "colours", dInts (c :: t)]) 2).dq) de_int)) (dw_or1 (dt_not (dt_val (de_isi T (de_ixT (d := .str "colours") (de_name 2) de_int rfl) T.str boot_str_ rfl))))))
    refine db_nil (db_cons (ds_if (k := true) (dt_cmp (dc_eqS (i := "colours") (j := "colours") (de_ixT (d := .str "colours") (de_name 2) de_int rfl) (de_globS gM))) (fun _ => ?_) (fun k => nomatch k)))
    refine db_cons (ds_ret (de_and (de_call gA hr (das_w (dw_name 0) (das_v (de_ixT (d := dInts (c :: t)) (de_name 2) de_int rfl) das_nil)) ⟨n, r, c :: t, rfl, wo, co, rfl⟩) fun _ => de_one (de_cmp (dc_lt (de_maxT (i := t.foldl max c) T rfl (by show (A.deeper _).units + 2 < _; omega) (de_ixT (d := dInts (c :: t)) (de_name 2) de_int rfl) (foldl_max_mem t c) (foldl_max_le t c)) (de_name 1)))) ?_)
    show PyData.bool (true && _) = _
    rw [decide_eq_true (hc _ (foldl_max_mem t c))]; rfl
end
end TD
namespace TD
open PySem L2 TS
section
variable {w : World} {K : PySem.W.Frag} {mg : Str → Option Value} {base : Heap} {C : Addr} {f : Addr} {fd : FuncData}
def dII (p : Int × Int) : PyData := .tuple [.int p.1, .int p.2]
theorem zip_dII : ∀ (a b : List Int), dZip (a.map .int) (b.map .int) = (a.zip b).map dII
  | [], b => rfl
  | x :: a, [] => rfl
  | x :: a, y :: b => by
    show PyData.tuple [.int x, .int y] :: dZip (a.map .int) (b.map .int) = _
    rw [zip_dII a b]; rfl
theorem zip_add : ∀ (a b : List Int), (a.zip b).map (fun p => PyData.int (p.1 + p.2)) = (zadd a b).map .int
  | [], b => rfl
  | x :: a, [] => rfl
  | x :: a, y :: b => by
    show PyData.int (x + y) :: ((a.zip b).map fun p => PyData.int (p.1 + p.2)) = _
    rw [zip_add a b]; rfl
theorem zip_less (k : Int) : ∀ (a b : List Int), (a.zip b).map (fun p => PyData.int (p.1 - k * p.2)) = (List.zipWith (fun a b => a - k * b) a b).map .int
  | [], b => rfl
  | x :: a, [] => rfl
  | x :: a, y :: b => by
    show PyData.int (x - k * y) :: ((a.zip b).map fun p => PyData.int (p.1 - k * p.2)) = _
    rw [zip_less k a b]; rfl
abbrev s_times_less : Stmt := top 68
theorem sc_times_less : FnScope ["powers", "number", "shifted", "one", "other"] ["powers", "number"] (defScope s_times_less) := ⟨rfl, rfl, rfl, by decide +kernel, rfl, by decide +kernel, by decide +kernel⟩
def R_times_less (sl : List Sl) (d : PyData) : Prop := ∃ (ps : List Int) (k : Nat), sl = [.v (dIntsL ps), .v (dI k)] ∧ ps.length ≤ 100 ∧ k ≤ 100 ∧ d = dIntsL (timesLess ps k)
theorem ok_times_less (T : Tp mg) (F : Fun K "times_less" "times_less" s_times_less f fd) : FnOk PP w K mg base CX0 1 f fd ["powers", "number"] (spD C R_times_less) :=
  mkFn F sc_times_less (fun sl d ⟨_, _, e, _⟩ => by rw [e]; rfl) fun cdv A outer s H E hr sl d hR => by
    obtain ⟨ps, k, rfl, hl, hk, rfl⟩ := hR
    have nd := sc_times_less.nd
    refine db_cons (ds_set 2 ((dn_lst (da_cons de_int (da_star (de_name 0).dq' da_nil)) ?_).de.cast (?_ : _ = dIntsL (0 :: ps))) ?_ nd)
    · rw [List.append_nil, List.length_cons, List.length_map, sizeLine_eq]; omega
    · rw [List.append_nil]; rfl
    refine db_cons (ds_ret (dn_map [("one", 3), ("other", 4)] dII ((0 :: ps).zip (ps ++ [0])) (fun p => .int (p.1 - (k : Int) * p.2)) rfl sc_times_less ((di_zipL T (de_name 2) ((dn_lst (da_star (de_name 0).dq' (da_cons de_int da_nil)) ?_).de.cast (?_ : _ = PyData.list ((ps ++ [0]).map .int)))).cast (zip_dII _ _)) ?_ fun p hp => ⟨_, _, ?_, ?_, fun s H Cc cl fp => ⟨dg_tup rfl (dgs_cons (dg_name 3 nd) (dgs_cons (dg_name 4 nd) dgs_nil)), de_sub (de_name 3) (de_mul (de_name 1) (de_name 4) (.inl (by omega)))⟩⟩).de ?_)
    · rw [List.length_append, List.length_map, sizeLine_eq]; simp; omega
    · rw [List.map_append]; rfl
    · rw [List.length_zip, List.length_cons]; omega
    · decide
    · rfl
    · rw [zip_less]; rfl
abbrev s_value_at : Stmt := top 71
theorem sc_value_at : FnScope ["powers", "number", "found", "often"] ["powers", "number"] (defScope s_value_at) := ⟨rfl, rfl, rfl, by decide +kernel, rfl, by decide +kernel, by decide +kernel⟩
def R_value_at (sl : List Sl) (d : PyData) : Prop := ∃ (ps : List Int) (k : Int), sl = [.v (dInts ps), .v (.int k)] ∧ -1 ≤ k ∧ k ≤ 20 ∧ d = .int (valueAt ps k)
theorem ok_value_at (F : Fun K "value_at" "value_at" s_value_at f fd) : FnOk PP w K mg base CX0 1 f fd ["powers", "number"] (spD C R_value_at) :=
  mkFn F sc_value_at (fun sl d ⟨_, _, e, _⟩ => by rw [e]; rfl) fun cdv A outer s H E hr sl d hR => by
    obtain ⟨ps, k, rfl, h1, h2, rfl⟩ := hR
    have nd := sc_value_at.nd
    refine db_cons (ds_set 2 de_int ?_ nd)
    refine db_cons (ds_for (fun i env => ∃ x, env = [.v (dInts ps), .v (.int k), .v (.int ((ps.reverse.take i).foldl (fun f c => f * k + c) 0)), x]) PassesOwn.never rfl ((di_tup (de_revT (de_name 0))).cast (?_ : _ = ps.reverse.map .int)) ⟨_, rfl⟩ ?_ ?_)
    · rw [List.map_reverse]
    · rintro i d env1 hd ⟨x, rfl⟩
      obtain ⟨c, hc, rfl⟩ := map_get hd
      have tk : ps.reverse.take (i + 1) = ps.reverse.take i ++ [c] := by rw [List.take_add_one, hc]; rfl
      rw [tk, List.foldl_append]
      exact ⟨_, _, dg_name 3 nd, db_cons (ds_set 2 (de_add (de_mul (de_name 2) (de_name 1) (.inr (by omega))) (de_name 3)) (db_nil ⟨_, rfl⟩) nd)⟩
    · rintro env1 ⟨x, rfl⟩
      refine db_cons (ds_ret (de_name 2) ?_)
      rw [List.take_of_length_le (by rw [List.length_map]; exact Nat.le_refl _)]
      rfl
theorem timesLess_len (ps : List Int) (k : Int) : (timesLess ps k).length = ps.length + 1 := by
  unfold timesLess; rw [List.length_zipWith, List.length_cons, List.length_append, List.length_singleton]; omega
def Bd (B : Int) (ps : List Int) : Prop := ∀ x ∈ ps, -B ≤ x ∧ x ≤ B
theorem zipWith_bd {B : Int} {k : Nat} (hk : k ≤ 7) : ∀ (a b : List Int), Bd B a → Bd B b → Bd (8 * B) (List.zipWith (fun a b => a - (k : Int) * b) a b)
  | [], _, _, _ => fun x hx => nomatch hx
  | _ :: _, [], _, _ => fun x hx => nomatch hx
  | x :: a, y :: b, h1, h2 => fun z hz => by
    rw [List.zipWith_cons_cons] at hz
    rcases List.mem_cons.mp hz with rfl | hz
    · have q1 := h1 x List.mem_cons_self
      have q2 := h2 y List.mem_cons_self
      have p1 : (k : Int) * y ≤ 7 * B := by
        have a1 : (k : Int) * y ≤ (k : Int) * B := Int.mul_le_mul_of_nonneg_left q2.2 (by omega)
        have a2 : (k : Int) * B ≤ 7 * B := Int.mul_le_mul_of_nonneg_right (by omega) (by omega)
        omega
      have p2 : -(7 * B) ≤ (k : Int) * y := by
        have a1 : (k : Int) * (-B) ≤ (k : Int) * y := Int.mul_le_mul_of_nonneg_left q2.1 (by omega)
        have a2 : (k : Int) * B ≤ 7 * B := Int.mul_le_mul_of_nonneg_right (by omega) (by omega)
        rw [Int.mul_neg] at a1
        omega
      omega
    · exact zipWith_bd hk a b (fun u hu => h1 u (List.mem_cons_of_mem _ hu)) (fun u hu => h2 u (List.mem_cons_of_mem _ hu)) z hz
theorem timesLess_bd {B : Int} {k : Nat} {ps : List Int} (hk : k ≤ 7) (hB : 0 ≤ B) (h : Bd B ps) : Bd (8 * B) (timesLess ps k) := by
  refine zipWith_bd hk _ _ (fun x hx => ?_) (fun x hx => ?_)
  · rcases List.mem_cons.mp hx with rfl | hx
    · omega
    · exact h x hx
  · rcases List.mem_append.mp hx with hx | hx
    · exact h x hx
    · simp at hx; omega
abbrev s_times_by : Stmt := top 54
theorem sc_times_by : FnScope ["web", "signs", "hours", "apart", "rows", "one", "other", "found", "turn", "before", "least"] ["web", "signs", "hours", "apart"] (defScope s_times_by) := ⟨rfl, rfl, rfl, by decide +kernel, rfl, by decide +kernel, by decide +kernel⟩
def dArc (a : Arc) : PyData := .tuple [dI a.1, dI a.2.1, .int a.2.2]
def R_times_by (sl : List Sl) (d : PyData) : Prop := ∃ n r sg h a, sl = [.web n r, .v (dInts sg), .v (dI h), .v (dI a)] ∧ WebOk n r ∧ SgOk r sg ∧ HrOk h a ∧ d = dOpt (timesBy n r sg h a)
theorem arcs2_in {n : Nat} {ar : List (Nat × Nat)} {h a : Int} (hp : ∀ p ∈ ar, p.1 < n ∧ p.2 < n) : InN n (arcs2 ar h a) := by
  intro x hx
  obtain ⟨p, hp', hx⟩ := List.mem_flatMap.mp hx
  have := hp p hp'
  simp at hx
  rcases hx with rfl | rfl
  · exact this
  · exact ⟨this.2, this.1⟩
theorem arcs2_len (ar : List (Nat × Nat)) (h a : Int) : (arcs2 ar h a).length = 2 * ar.length := by
  induction ar with
  | nil => rfl
  | cons p ar ih => show (_ ++ arcs2 ar h a).length = _; rw [List.length_append, ih, List.length_cons]; simp; omega
theorem arcs2_take {ar : List (Nat × Nat)} {h a : Int} {i : Nat} {p : Nat × Nat} (hp : ar[i]? = some p) : arcs2 (ar.take (i + 1)) h a = arcs2 (ar.take i) h a ++ [(p.1, p.2, a), (p.2, p.1, a - h)] := by
  rw [List.take_add_one, hp]
  unfold arcs2
  rw [List.flatMap_append]; rfl
theorem ok_times_by (T : Tp mg) (W : Wb K C) (gS : DFn PP w K mg base C "check_signs" 3 R_check_signs) (gC : DFn PP w K mg base C "check_clock" 2 R_check_clock) (gA : DFn PP w K mg base C "arrows_of" 1 R_arrows_of) (F : Fun K "times_by" "times_by" s_times_by f fd) : FnOk PP w K mg base CX0 4 f fd ["web", "signs", "hours", "apart"] (spD C R_times_by) :=
  mkFn F sc_times_by (fun sl d ⟨_, _, _, _, _, e, _⟩ => by rw [e]; rfl) fun cdv A outer s H E hr sl d hR => by
    obtain ⟨n, r, sg, h, a, rfl, wo, so, ho, rfl⟩ := hR
    have nd := sc_times_by.nd
    have hle := wo.le
    have hal : (arrowsOf r sg).length ≤ 10 := by rw [arrows_len so.len]; exact wo.len
    have hin := arcs2_in (h := h) (a := a) (arrows_lt (sg := sg) wo.lt)
    refine db_cons (ds_expr (de_call gS hr (das_w (dw_name 0) (das_v (de_name 1) das_nil)) ⟨n, r, sg, rfl, so, wo.len, rfl⟩) ?_)
    refine db_cons (ds_expr (de_call gC (hr.mono (by decide)) (das_v (de_name 2) (das_v (de_name 3) das_nil)) ⟨h, a, rfl, ho, rfl⟩) ?_)
    refine db_cons (ds_setN 4 dn_nil ?_ nd)
    refine db_cons (ds_for (fun i env => ∃ x y, env = [.web n r, .v (dInts sg), .v (dI h), .v (dI a), .mu ((arcs2 ((arrowsOf r sg).take i) h a).map dArc), x, y, .no, .no, .no, .no]) PassesOwn.never rfl (di_list (de_call gA (hr.mono (by decide)) (das_w (dw_name 0) (das_v (de_name 1) das_nil)) ⟨n, r, sg, rfl, wo.len, rfl⟩)) ⟨_, _, rfl⟩ ?_ ?_)
    · rintro i d env1 hd ⟨x, y, rfl⟩
      obtain ⟨p, hp, rfl⟩ := map_get hd
      have hln : (arcs2 ((arrowsOf r sg).take i) h a).length ≤ 20 := by rw [arcs2_len, List.length_take]; omega
      refine ⟨_, _, dg_tup rfl (dgs_cons (dg_name 5 nd) (dgs_cons (dg_name 6 nd) dgs_nil)), ?_⟩
      refine db_cons (ds_append 4 rfl (de_tup (da_cons (de_name 5) (da_cons (de_name 6) (da_cons (de_name 3) da_nil)))) (by rw [List.length_map]; omega) ?_)
      refine db_cons (ds_append 4 rfl (de_tup (da_cons (de_name 6) (da_cons (de_name 5) (da_cons (de_sub (de_name 3) (de_name 2)) da_nil)))) (by rw [List.length_append, List.length_map]; simp; omega) (db_nil ⟨.v (dI p.1), .v (dI p.2), ?_⟩))
      rw [arcs2_take hp, List.map_append, List.append_assoc]
      rfl
    · rintro env0 ⟨x0, y0, rfl⟩
      rw [List.take_of_length_le (by rw [List.length_map]; exact Nat.le_refl _)]
      generalize hA : arcs2 (arrowsOf r sg) h a = arcs at hin
      have hTB : timesBy n r sg h a = bf (n + 1) arcs (zeros n) := by unfold timesBy; rw [hA]
      refine db_freeze 4 rfl ?_
      refine db_cons (ds_setN 7 (dn_rep1 (dn_lst (da_cons de_int da_nil)).dl (de_many W.cl W.nM (dw_name 0)) (by omega)) ?_ nd)
      refine db_cons (ds_for (fun i env => ∃ f x y z u v, env = [.web n r, .v (dInts sg), .v (dI h), .v (dI a), .v (.list (arcs.map dArc)), x, y, .mu (f.map .int), z, u, v] ∧ f.length = n ∧ timesBy n r sg h a = bf (n + 1 - i) arcs f) PassesOwn.never rfl
        (di_range1 T (de_add (de_many W.cl W.nM (dw_name 0)) de_int) ⟨by omega, by omega⟩) ⟨zeros n, x0, y0, .no, .no, .no, ?_, zeros_len n, hTB⟩ ?_ ?_)
      · show [Sl.web n r, .v (dInts sg), .v (dI h), .v (dI a), .v (.list (arcs.map dArc)), x0, y0, .mu (List.replicate n (.int 0)), .no, .no, .no] = _
        rw [zeros, List.map_replicate]
      · rintro i d env1 hd ⟨f, x, y, z, u, v, rfl, hl, hh⟩
        have hi : i < n + 1 := by
          have := (List.getElem?_eq_some_iff.mp hd).1
          unfold dRange at this
          rw [List.length_map, List.length_range] at this
          omega
        refine ⟨_, _, dg_name 8 nd, ?_⟩
        refine db_cons (ds_set 9 (dn_list T (dl_name 7).dq).de ?_ nd)
        refine db_cons (ds_for (fun j env => ∃ x y v, env = [.web n r, .v (dInts sg), .v (dI h), .v (dI a), .v (.list (arcs.map dArc)), x, y, .mu ((round (arcs.take j) f).map .int), .v d, .v (dIntsL f), v]) PassesOwn.never rfl (di_list (de_name 4)) ⟨x, y, v, rfl⟩ ?_ ?_)
        · rintro j e env2 he ⟨x, y, v, rfl⟩
          obtain ⟨p, hp, rfl⟩ := map_get he
          have hpn := hin p (List.mem_of_getElem? hp)
          have hl2 : (round (arcs.take j) f).length = n := by rw [round_len, hl]
          have hstep : round (arcs.take (j + 1)) f = relax (round (arcs.take j) f) p := by
            rw [List.take_add_one, hp]
            unfold round
            rw [List.foldl_append]; rfl
          refine ⟨_, _, dg_tup rfl (dgs_cons (dg_name 5 nd) (dgs_cons (dg_name 6 nd) (dgs_cons (dg_name 10 nd) dgs_nil))), ?_⟩
          refine db_cons (ds_setI 7 rfl (de_max2 T rfl (de_ixL (dl_name 7) (de_name 6) (atI_ints (by rw [hl2]; exact hpn.2))) (de_add (de_ixL (dl_name 7) (de_name 5) (atI_ints (by rw [hl2]; exact hpn.1))) (de_name 10))) (de_name 6) (by rw [List.length_map, hl2]; exact hpn.2) ?_)
          refine db_nil ⟨.v (dI p.1), .v (dI p.2.1), .v (.int p.2.2), ?_⟩
          rw [max_if, set_ints, hstep]
          rfl
        · rintro env2 ⟨x, y, v, rfl⟩
          rw [List.take_of_length_le (by rw [List.length_map]; exact Nat.le_refl _)]
          refine db_cons (ds_if (dt_cmp (dc_eq hr.units (de_name 9).dr (dl_name 7).dr (lay_dIntsL _).sh (lay_dIntsL _).sh (eqv_dIntsL f (round arcs f)))) (fun k => ?_) (fun k => ?_))
          · refine db_cons (ds_ret (de_tuple T (dl_name 7)) ?_)
            show _ = dOpt _
            rw [hh, show n + 1 - i = (n - i) + 1 by omega, bf, if_pos (of_decide_eq_true k)]; rfl
          · refine db_nil (db_nil ⟨_, _, _, _, _, _, rfl, by rw [round_len, hl], ?_⟩)
            rw [hh, show n + 1 - i = (n + 1 - (i + 1)) + 1 by omega, bf, if_neg (of_decide_eq_false k)]
      · rintro env1 ⟨f, x, y, z, u, v, rfl, hl, hh⟩
        refine db_cons (ds_ret de_non ?_)
        have : (dRange 0 ((n : Int) + 1).toNat).length = n + 1 := by unfold dRange; rw [List.length_map, List.length_range]; omega
        rw [hh, this, Nat.sub_self]; rfl
end
end TD
namespace TD
open PySem L2 TS
section
variable {w : World} {K : PySem.W.Frag} {mg : Str → Option Value} {base : Heap} {C : Addr} {f : Addr} {fd : FuncData}
abbrev s_lots_on : Stmt := top 67
theorem sc_lots_on : FnScope ["web", "lots", "place", "near", "found", "at", "lot", "more", "many", "one", "other"] ["web", "lots", "place"] (defScope s_lots_on) := ⟨rfl, rfl, rfl, by decide +kernel, rfl, by decide +kernel, by decide +kernel⟩
def dLot (l : List Nat) : PyData := .list (l.map dI)
def R_lots_on (j : Nat) (sl : List Sl) (d : PyData) : Prop := ∃ (n : Nat) (r : List (Nat × Nat)) (lots : List (List Nat)) (p : Nat), sl = [.web n r, .v (.list (lots.map dLot)), .v (dI p)] ∧ WebOk n r ∧ p + j = n ∧ lots.length ≤ p ∧ (∀ l ∈ lots, l.length ≤ p) ∧ d = dIntsL (lotsOn n r j lots)
theorem zadd_len (a b : List Int) : (zadd a b).length = min a.length b.length := List.length_zipWith
def lotF (n : Nat) (r : List (Nat × Nat)) (k : Nat) (lots : List (List Nat)) (found : List Int) (i : Nat) : List Int :=
  if (nearP r (n - (k + 1))).any (fun q => decide (q ∈ lots.getD i [])) = true then found else zadd found (lotsOn n r k (lots.set i (lots.getD i [] ++ [n - (k + 1)])))
theorem lots_len {n : Nat} {r : List (Nat × Nat)} : ∀ (k : Nat) (lots : List (List Nat)), (lotsOn n r k lots).length = n + 1
  | 0, lots => by show ((List.range (n + 1)).map _).length = _; rw [List.length_map, List.length_range]
  | k + 1, lots => by
    have go : ∀ (l : List Nat) (f : List Int), f.length = n + 1 → (l.foldl (lotF n r k lots) f).length = n + 1 := fun l => by
      induction l with
      | nil => exact fun f h => h
      | cons i l ih =>
        intro f h
        refine ih _ ?_
        unfold lotF
        split
        · exact h
        · rw [zadd_len, h, lots_len k]; omega
    show (zadd ((List.range lots.length).foldl (lotF n r k lots) (List.replicate (n + 1) 0)) (lotsOn n r k (lots ++ [[n - (k + 1)]]))).length = _
    rw [zadd_len, go _ _ List.length_replicate, lots_len k]; omega
theorem lotF_len {n : Nat} {r : List (Nat × Nat)} {k : Nat} {lots : List (List Nat)} : ∀ (l : List Nat) (f : List Int), f.length = n + 1 → (l.foldl (lotF n r k lots) f).length = n + 1
  | [], f, h => h
  | i :: l, f, h => lotF_len l _ (by
      unfold lotF
      split
      · exact h
      · rw [zadd_len, h, lots_len k]; omega)
theorem set_slices {α : Type} {l : List α} {i : Nat} {x : α} (h : i < l.length) : l.take i ++ x :: l.drop (i + 1) = l.set i x := (List.set_eq_take_append_cons_drop).symm ▸ by rw [if_pos h]
theorem ok_lots_step (T : Tp mg) (W : Wb K C) (j : Nat) (gW : ∀ i, j = i + 1 → DFn PP w K mg base C "lots_on" j (R_lots_on i)) (F : Fun K "lots_on" "lots_on" s_lots_on f fd) : FnOk PP w K mg base CX0 (j + 1) f fd ["web", "lots", "place"] (spD C (R_lots_on j)) :=
  mkFn F sc_lots_on (fun sl d ⟨_, _, _, _, e, _⟩ => by rw [e]; rfl) fun cdv A outer s H E hr sl d hR => by
    obtain ⟨n, r, lots, p, rfl, wo, hpn, hll, hlp, rfl⟩ := hR
    have nd := sc_lots_on.nd
    have h6 := wo.le
    have h10 := wo.len
    refine db_cons (ds_if (k := decide (j = 0)) ((dt_cmp (dc_eqI (de_name 2) (de_many W.cl W.nM (dw_name 0)))).cast (decide_eq_decide.mpr (by omega))) (fun k => ?_) (fun k => ?_))
    · have k := of_decide_eq_true k
      subst k
      refine db_cons (ds_ret (dn_map [("many", 8)] dI (List.range (n + 1)) (fun m => .int (if m = lots.length then 1 else 0)) rfl sc_lots_on ((di_range1 T (de_add (de_many W.cl W.nM (dw_name 0)) de_int) ⟨by omega, by omega⟩).cast ?_) (by rw [List.length_range]; omega) fun m hm => ⟨_, _, ?_, ?_, fun s H Cc cl fp => ⟨dg_name 8 nd, (de_intB T (de_cmp (dc_eqI (de_name 8) (de_len T (de_name 1).dq')))).cast ?_⟩⟩).de ?_)
      · unfold dRange dI
        have : ((n : Int) + 1).toNat = n + 1 := by omega
        rw [this]; simp
      · decide
      · rfl
      · rw [List.length_map]
        by_cases q : m = lots.length
        · rw [if_pos q, decide_eq_true (by omega)]; rfl
        · rw [if_neg q, decide_eq_false (by omega)]; rfl
      · show PyData.list _ = PyData.list (((List.range (n + 1)).map _).map _)
        rw [List.map_map]; rfl
    have k := of_decide_eq_false k
    obtain ⟨i, rfl⟩ : ∃ i, j = i + 1 := ⟨j - 1, by omega⟩
    have hp : n - (i + 1) = p := by omega
    have hnl : (r.filter fun q => decide (q.2 = p)).length ≤ r.length := List.length_filter_le _ _
    refine db_nil (db_cons (ds_par 3 4 (d := .list ((nearP r p).map dI)) (d' := dIntsL (List.replicate (n + 1) 0)) ((dn_filt [("one", 9), ("other", 10)] dP r (fun q => decide (q.2 = p)) (fun q => dI q.1) rfl sc_lots_on (di_tup (de_rows W.cl W.nR (dw_name 0))) (by omega) fun q hq => ⟨_, _, ?_, ?_, fun s H Cc cl fp => ⟨dg_tup rfl (dgs_cons (dg_name 9 nd) (dgs_cons (dg_name 10 nd) dgs_nil)), ?_, fun _ => de_name 9⟩⟩).de.cast ?_) ((dn_rep1 (dn_lst (da_cons de_int da_nil)).dl ((de_add (de_many W.cl W.nM (dw_name 0)) de_int).cast (?_ : _ = dI (n + 1))) (by omega)).de.cast ?_) ?_ rfl nd))
    · decide
    · rfl
    · exact (dt_cmp (dc_eqI (de_name 10) (de_name 2))).cast (decide_eq_decide.mpr Int.ofNat_inj)
    · unfold nearP; rw [List.map_map]; rfl
    · rfl
    · unfold dIntsL; rw [List.map_replicate]
    refine db_cons (ds_for (fun t env => ∃ x y z, env = [.web n r, .v (.list (lots.map dLot)), .v (dI p), .v (.list ((nearP r p).map dI)), .v (dIntsL ((List.range t).foldl (lotF n r i lots) (List.replicate (n + 1) 0))), x, y, z, .no, .no, .no]) PassesOwn.never rfl (di_enumL T (de_name 1)) ⟨_, _, _, rfl⟩ ?_ ?_)
    · rintro t d env1 hd ⟨x, y, z, rfl⟩
      obtain ⟨x', hx', rfl⟩ := dEnum_get hd
      obtain ⟨lot, hlot, rfl⟩ := map_get hx'
      have ht : t < lots.length := (List.getElem?_eq_some_iff.mp hlot).1
      have hgd : lots.getD t [] = lot := by rw [List.getD_eq_getElem?_getD, hlot]; rfl
      have hmem := List.mem_of_getElem? hlot
      have hlotl := hlp lot hmem
      have hfl := lotF_len (n := n) (r := r) (k := i) (lots := lots) (List.range t) (List.replicate (n + 1) 0) List.length_replicate
      have hnext : (List.range (t + 1)).foldl (lotF n r i lots) (List.replicate (n + 1) 0) = lotF n r i lots ((List.range t).foldl (lotF n r i lots) (List.replicate (n + 1) 0)) t := by rw [List.range_succ, List.foldl_append]; rfl
      rw [hnext]
      generalize (List.range t).foldl (lotF n r i lots) (List.replicate (n + 1) 0) = cur at hfl
      unfold lotF
      rw [hgd, hp]
      refine ⟨_, _, dg_tup rfl (dgs_cons (dg_name 5 nd) (dgs_cons (dg_name 6 nd) dgs_nil)), ?_⟩
      have hnp : (nearP r p).length ≤ r.length := by unfold nearP; rw [List.length_map]; exact hnl
      refine db_cons (ds_if (k := !((nearP r p).any fun q => decide (q ∈ lot))) (dt_not (dt_val (de_anyC T [("one", 9)] dI (nearP r p) (fun q => decide (q ∈ lot)) rfl sc_lots_on (di_list (de_name 3)) (by omega) fun q hq => ⟨_, _, ?_, ?_, fun s H Cc cl fp => ⟨dg_name 9 nd, (de_cmp (dc_inI (de_name 9) ((de_name (d := .list (lot.map dI)) 6).dq'.cast (cast_nats lot)))).cast ?_⟩⟩))) (fun k => ?_) (fun k => ?_))
      · decide
      · rfl
      · rw [contains_cast]
      · have k : ((nearP r p).any fun q => decide (q ∈ lot)) = false := by simpa using k
        rw [k, if_neg Bool.false_ne_true]
        refine db_cons (ds_set 7 (de_call (gW i rfl) hr (das_w (dw_name 0) (das_v ((dn_lst (da_star (dn_sliceL (l := none) (h := some (t : Int)) (de_name 1).dl ?_ ?_).dl.dq (da_cons (d := dLot (lot ++ [p])) ((dn_lst (da_star (de_name (d := .list (lot.map dI)) 6).dq' (da_cons (de_name 2) da_nil)) ?_).de.cast ?_) (da_star (dn_sliceL (l := some ((t : Int) + 1)) (h := none) (de_name 1).dl ?_ ?_).dl.dq da_nil))) ?_).de.cast (?_ : _ = PyData.list ((lots.set t (lot ++ [p])).map dLot))) (das_v (de_add (de_name 2) de_int) das_nil))) ⟨n, r, lots.set t (lot ++ [p]), p + 1, rfl, wo, by omega, by rw [List.length_set]; omega, ?_, rfl⟩) ?_ nd)
        · trivial
        · exact de_name 5
        · rw [List.length_append, List.length_map, sizeLine_eq]; simp; omega
        · show PyData.list (lot.map dI ++ [dI p]) = PyData.list ((lot ++ [p]).map dI)
          rw [List.map_append]; rfl
        · exact de_add (de_name 5) de_int
        · trivial
        · unfold cutD
          simp only [List.length_append, List.length_cons, List.length_take, List.length_drop, List.length_map, List.length_nil]
          rw [sizeLine_eq]
          omega
        · have e1 : cutD (lots.map dLot) none (some (t : Int)) = (lots.take t).map dLot := by
            unfold cutD HT.sIx
            simp
            rw [if_neg (by omega)]; omega
          have e2 : cutD (lots.map dLot) (some ((t : Int) + 1)) none = (lots.drop (t + 1)).map dLot := by
            unfold cutD HT.sIx
            have : ¬ ((t : Int) + 1 < 0) := by omega
            simp [this]
            rw [Nat.min_eq_left (by omega), List.take_of_length_le (by rw [List.length_drop, List.length_map]; exact Nat.le_refl _)]
          rw [e1, e2, List.append_nil, ← set_slices ht, List.map_append, List.map_cons]
        · intro l hl
          rcases List.mem_or_eq_of_mem_set hl with hl | rfl
          · have := hlp l hl; omega
          · rw [List.length_append, List.length_singleton]; omega
        · have hml := lots_len (n := n) (r := r) i (lots.set t (lot ++ [p]))
          refine db_cons (ds_setMap 4 [("one", 9), ("other", 10)] dII (cur.zip (lotsOn n r i (lots.set t (lot ++ [p])))) (fun q => .int (q.1 + q.2)) rfl sc_lots_on ((di_zipL T (de_name 4) (de_name 7)).cast (zip_dII _ _)) (by rw [List.length_zip]; omega) (fun q hq => ⟨_, _, ?_, ?_, fun s H Cc cl fp => ⟨dg_tup rfl (dgs_cons (dg_name 9 nd) (dgs_cons (dg_name 10 nd) dgs_nil)), de_add (de_name 9) (de_name 10)⟩⟩) (db_nil (db_nil ⟨.v (dI t), .v (dLot lot), .v (dIntsL (lotsOn n r i (lots.set t (lot ++ [p])))), ?_⟩)))
          · decide
          · rfl
          · rw [zip_add]; rfl
      · have k : ((nearP r p).any fun q => decide (q ∈ lot)) = true := by simpa using k
        rw [k, if_pos rfl]
        exact db_nil (db_nil ⟨.v (dI t), .v (dLot lot), z, rfl⟩)
    · rintro env1 ⟨x, y, z, rfl⟩
      have el : (dEnum (lots.map dLot)).length = lots.length := by unfold dEnum; rw [List.length_map, List.length_zipIdx, List.length_map]
      rw [el]
      have hfl := lotF_len (n := n) (r := r) (k := i) (lots := lots) (List.range lots.length) (List.replicate (n + 1) 0) List.length_replicate
      have hml := lots_len (n := n) (r := r) i (lots ++ [[p]])
      refine db_cons (ds_ret (dn_map [("one", 9), ("other", 10)] dII (((List.range lots.length).foldl (lotF n r i lots) (List.replicate (n + 1) 0)).zip (lotsOn n r i (lots ++ [[p]]))) (fun q => .int (q.1 + q.2)) rfl sc_lots_on ((di_zipL T (de_name 4) (de_call (gW i rfl) hr (das_w (dw_name 0) (das_v ((dn_lst (da_star (de_name 1).dq' (da_cons (d := dLot [p]) (dn_lst (da_cons (de_name 2) da_nil)).de da_nil)) ?_).de.cast (?_ : _ = PyData.list ((lots ++ [[p]]).map dLot))) (das_v (de_add (de_name 2) de_int) das_nil))) ⟨n, r, lots ++ [[p]], p + 1, rfl, wo, by omega, by rw [List.length_append]; simp; omega, ?_, rfl⟩)).cast (zip_dII _ _)) (by rw [List.length_zip]; omega) fun q hq => ⟨_, _, ?_, ?_, fun s H Cc cl fp => ⟨dg_tup rfl (dgs_cons (dg_name 9 nd) (dgs_cons (dg_name 10 nd) dgs_nil)), de_add (de_name 9) (de_name 10)⟩⟩).de ?_)
      · rw [List.length_append, List.length_map, sizeLine_eq]; simp; omega
      · rw [List.map_append]; rfl
      · decide
      · rfl
      · rw [zip_add]
        show PyData.list _ = dIntsL (zadd ((List.range lots.length).foldl (lotF n r i lots) (List.replicate (n + 1) 0)) (lotsOn n r i (lots ++ [[n - (i + 1)]])))
        rw [hp]; rfl
      · intro l hl
        rcases List.mem_append.mp hl with hl | hl
        · have := hlp l hl; omega
        · simp at hl; subst hl; simp
theorem ok_lots_on (T : Tp mg) (W : Wb K C) (F : Fun K "lots_on" "lots_on" s_lots_on f fd) (hm : mg "lots_on" = some (.ref f)) (hb : Binds K fd ["web", "lots", "place"] []) : ∀ j, DFn PP w K mg base C "lots_on" (j + 1) (R_lots_on j)
  | 0 => .of (ok_lots_step T W 0 (fun i e => by omega) F) hm F.kp hb
  | j + 1 => .of (ok_lots_step T W (j + 1) (fun i e => by cases e; exact ok_lots_on T W F hm hb j) F) hm F.kp hb
end
end TD
namespace TD
open PySem L2 TS
section
variable {w : World} {K : PySem.W.Frag} {mg : Str → Option Value} {base : Heap} {C : Addr} {f : Addr} {fd : FuncData}
abbrev s_powers_of : Stmt := top 69
theorem sc_powers_of : FnScope ["web", "found", "falling", "many", "ways", "power", "often"] ["web"] (defScope s_powers_of) := ⟨rfl, rfl, rfl, by decide +kernel, rfl, by decide +kernel, by decide +kernel⟩
def R_powers_of (sl : List Sl) (d : PyData) : Prop := ∃ n r, sl = [.web n r] ∧ WebOk n r ∧ d = dInts (powersOf n r)
theorem addAt_len (ways : Int) : ∀ (q : List (Int × Nat)) (f : List Int), (q.foldl (fun f q => f.set q.2 (gt f q.2 + ways * q.1)) f).length = f.length
  | [], f => rfl
  | p :: q, f => by rw [List.foldl_cons, addAt_len ways q, List.length_set]
theorem pow_inv {n : Nat} : ∀ (l : List (Int × Nat)) (k : Nat) (f g : List Int), (∀ i q, l[i]? = some q → q.2 = k + i) → k + l.length ≤ 8 → f.length = n + 1 → g.length = k + 1 → Bd (8 ^ k) g →
    (l.foldl powStep (f, g)).1.length = n + 1 ∧ (l.foldl powStep (f, g)).2.length = k + l.length + 1 ∧ Bd (8 ^ (k + l.length)) (l.foldl powStep (f, g)).2
  | [], k, f, g, _, _, h1, h2, h3 => ⟨h1, h2, h3⟩
  | q :: l, k, f, g, h, h8, h1, h2, h3 => by
    rw [List.length_cons] at h8
    have hq : q.2 = k := h 0 q rfl
    have := pow_inv l (k + 1) (addAt f q.1 g) (timesLess g q.2) (fun i p hp => by have := h (i + 1) p (by simpa using hp); omega) (by omega) (by unfold addAt; rw [addAt_len, h1]) (by rw [timesLess_len, h2]) (by
      have e := timesLess_bd (k := q.2) (B := 8 ^ k) (ps := g) (by omega) (Int.le_of_lt (Int.pow_pos (by decide))) h3
      rw [Int.pow_succ, Int.mul_comm]; exact e)
    rw [List.length_cons, List.foldl_cons]
    show ((l.foldl powStep (addAt f q.1 g, timesLess g q.2)).1.length = n + 1 ∧ _)
    rw [show k + (l.length + 1) = k + 1 + l.length by omega]
    exact this
theorem zipIdx_at {l : List Int} {i : Nat} {q : Int × Nat} (h : l.zipIdx[i]? = some q) : q.2 = i ∧ l[i]? = some q.1 := by
  rw [List.getElem?_zipIdx] at h
  cases e : l[i]? with
  | none => rw [e] at h; cases h
  | some x => rw [e] at h; cases h; exact ⟨by simp, rfl⟩
theorem ok_powers_of (T : Tp mg) (W : Wb K C) (gL : ∀ j, DFn PP w K mg base C "lots_on" (j + 1) (R_lots_on j)) (gT : DFn PP w K mg base C "times_less" 1 R_times_less) (F : Fun K "powers_of" "powers_of" s_powers_of f fd) : FnOk PP w K mg base CX0 8 f fd ["web"] (spD C R_powers_of) :=
  mkFn F sc_powers_of (fun sl d ⟨_, _, e, _⟩ => by rw [e]; rfl) fun cdv A outer s H E hr sl d hR => by
    obtain ⟨n, r, rfl, wo, rfl⟩ := hR
    have nd := sc_powers_of.nd
    have h6 := wo.le
    have hLl := lots_len (n := n) (r := r) n []
    refine db_cons (ds_parN1 1 2 (ds := (List.replicate (n + 1) 0).map .int) (d := dIntsL [1]) ((dn_rep1 (dn_lst (da_cons de_int da_nil)).dl ((de_add (de_many W.cl W.nM (dw_name 0)) de_int).cast (?_ : _ = dI (n + 1))) (by omega)).cast ?_) (dn_lst (da_cons de_int da_nil)).de ?_ rfl nd)
    · rfl
    · rw [List.map_replicate]
    refine db_cons (ds_for (fun i env => ∃ x y z u, env = [.web n r, .mu ((((lotsOn n r n []).zipIdx.take i).foldl powStep (List.replicate (n + 1) 0, [1])).1.map .int), .v (dIntsL (((lotsOn n r n []).zipIdx.take i).foldl powStep (List.replicate (n + 1) 0, [1])).2), x, y, z, u]) PassesOwn.never rfl (di_enumL T (de_call (gL n) (hr.mono (by omega)) (das_w (dw_name 0) (das_v (dn_nil).de (das_v de_int das_nil))) ⟨n, r, [], 0, rfl, wo, by omega, by simp, by simp, rfl⟩)) ⟨_, _, _, _, rfl⟩ ?_ ?_)
    · rintro i d env1 hd ⟨x, y, z, u, rfl⟩
      obtain ⟨x', hx', rfl⟩ := dEnum_get hd
      obtain ⟨ways, hw, rfl⟩ := map_get hx'
      have hi : i < n + 1 := by have := (List.getElem?_eq_some_iff.mp hw).1; omega
      have hz : (lotsOn n r n []).zipIdx[i]? = some (ways, i) := by rw [List.getElem?_zipIdx, hw]; simp
      have tk : (lotsOn n r n []).zipIdx.take (i + 1) = (lotsOn n r n []).zipIdx.take i ++ [(ways, i)] := by rw [List.take_add_one, hz]; rfl
      have htl : ((lotsOn n r n []).zipIdx.take i).length = i := by rw [List.length_take, List.length_zipIdx]; omega
      have inv := pow_inv (n := n) ((lotsOn n r n []).zipIdx.take i) 0 (List.replicate (n + 1) 0) [1] (fun a q hq => by
        have ha : a < i := by have := (List.getElem?_eq_some_iff.mp hq).1; omega
        rw [List.getElem?_take_of_lt ha] at hq
        have := (zipIdx_at hq).1; omega) (by omega) List.length_replicate rfl (fun x hx => by simp at hx; subst hx; exact ⟨by decide, by decide⟩)
      rw [htl, Nat.zero_add] at inv
      rw [tk, List.foldl_append, List.foldl_cons, List.foldl_nil]
      generalize ((lotsOn n r n []).zipIdx.take i).foldl powStep (List.replicate (n + 1) 0, [1]) = st at inv
      obtain ⟨cur, fal⟩ := st
      obtain ⟨hc, hf, hb⟩ := inv
      have hc : cur.length = n + 1 := hc
      have hf : fal.length = i + 1 := hf
      have hb : Bd (8 ^ i) fal := hb
      refine ⟨_, _, dg_tup rfl (dgs_cons (dg_name 3 nd) (dgs_cons (dg_name 4 nd) dgs_nil)), ?_⟩
      refine db_cons (ds_for (fun j env => ∃ z u, env = [.web n r, .mu (((fal.zipIdx.take j).foldl (fun f q => f.set q.2 (gt f q.2 + ways * q.1)) cur).map .int), .v (dIntsL fal), .v (dI i), .v (.int ways), z, u]) PassesOwn.never rfl (di_enumL T (de_name 2)) ⟨_, _, rfl⟩ ?_ ?_)
      · rintro j d env2 hd2 ⟨z, u, rfl⟩
        obtain ⟨x2, hx2, rfl⟩ := dEnum_get hd2
        obtain ⟨often, ho, rfl⟩ := map_get hx2
        have hj : j < fal.length := (List.getElem?_eq_some_iff.mp ho).1
        have hz2 : fal.zipIdx[j]? = some (often, j) := by rw [List.getElem?_zipIdx, ho]; simp
        have tk2 : fal.zipIdx.take (j + 1) = fal.zipIdx.take j ++ [(often, j)] := by rw [List.take_add_one, hz2]; rfl
        rw [tk2, List.foldl_append, List.foldl_cons, List.foldl_nil]
        have hcl := addAt_len ways (fal.zipIdx.take j) cur
        generalize (fal.zipIdx.take j).foldl (fun f q => f.set q.2 (gt f q.2 + ways * q.1)) cur = c2 at hcl
        have hbo := hb often (List.mem_of_getElem? ho)
        have hbb : (8 : Int) ^ i ≤ 2097152 := (by decide : ∀ i : Nat, i < 8 → (8 : Int) ^ i ≤ 2097152) i (by omega)
        refine ⟨_, _, dg_tup rfl (dgs_cons (dg_name 5 nd) (dgs_cons (dg_name 6 nd) dgs_nil)), ?_⟩
        refine db_cons (ds_augI 1 rfl (de_name 5) (ints_get (by omega)) (de_mul (de_name 4) (de_name 6) (.inr (by omega))) (db_nil ⟨.v (dI j), .v (.int often), ?_⟩))
        rw [set_ints]; rfl
      · rintro env2 ⟨z, u, rfl⟩
        have el : (dEnum (fal.map .int)).length = fal.length := by unfold dEnum; rw [List.length_map, List.length_zipIdx, List.length_map]
        rw [el, List.take_of_length_le (by rw [List.length_zipIdx]; exact Nat.le_refl _)]
        exact db_cons (ds_set 2 (de_call gT (hr.mono (by decide)) (das_v (de_name 2) (das_v (de_name 3) das_nil)) ⟨fal, i, rfl, by omega, by omega, rfl⟩) (db_nil ⟨.v (dI i), .v (.int ways), z, u, rfl⟩) nd)
    · rintro env1 ⟨x, y, z, u, rfl⟩
      have el : (dEnum ((lotsOn n r n []).map .int)).length = (lotsOn n r n []).length := by unfold dEnum; rw [List.length_map, List.length_zipIdx, List.length_map]
      rw [el, List.take_of_length_le (by rw [List.length_zipIdx]; exact Nat.le_refl _)]
      exact db_cons (ds_ret (de_tuple T (dl_name 1)) rfl)
abbrev s_polynomial : Stmt := top 70
theorem sc_polynomial : FnScope ["web"] ["web"] (defScope s_polynomial) := ⟨rfl, rfl, rfl, by decide +kernel, rfl, by decide +kernel, by decide +kernel⟩
theorem ok_polynomial (gP : DFn PP w K mg base C "powers_of" 8 R_powers_of) (F : Fun K "polynomial" "polynomial" s_polynomial f fd) : FnOk PP w K mg base CX0 9 f fd ["web"] (spD C R_powers_of) :=
  mkFn F sc_polynomial (fun sl d ⟨_, _, e, _⟩ => by rw [e]; rfl) fun cdv A outer s H E hr sl d hR => by
    obtain ⟨n, r, rfl, wo, rfl⟩ := hR
    exact db_cons (ds_ret (de_call gP hr (das_w (dw_name 0) das_nil) ⟨n, r, rfl, wo, rfl⟩) rfl)
abbrev s_many_colourings : Stmt := top 72
theorem sc_many_colourings : FnScope ["web", "many"] ["web", "many"] (defScope s_many_colourings) := ⟨rfl, rfl, rfl, by decide +kernel, rfl, by decide +kernel, by decide +kernel⟩
def R_many_colourings (sl : List Sl) (d : PyData) : Prop := ∃ (n : Nat) (r : List (Nat × Nat)) (m : Nat), sl = [.web n r, .v (dI m)] ∧ WebOk n r ∧ m ≤ 20 ∧ d = .int (valueAt (powersOf n r) m)
theorem ok_many_colourings {tk : Tok} (gM : mg "MOST_COLOUR" = some (.int 20 tk)) (gI : DFn PP w K mg base C "is_from" 1 R_is_from) (gP : DFn PP w K mg base C "powers_of" 8 R_powers_of) (gV : DFn PP w K mg base C "value_at" 1 R_value_at) (F : Fun K "many_colourings" "many_colourings" s_many_colourings f fd) : FnOk PP w K mg base CX0 9 f fd ["web", "many"] (spD C R_many_colourings) :=
  mkFn F sc_many_colourings (fun sl d ⟨_, _, _, e, _⟩ => by rw [e]; rfl) fun cdv A outer s H E hr sl d hR => by
    obtain ⟨n, r, m, rfl, wo, hm, rfl⟩ := hR
    refine db_cons (ds_if (dt_not (dt_val (de_call gI (hr.mono (by decide)) (das_v (de_name 1) (das_v de_int (das_v (de_globI gM) das_nil))) ⟨m, 0, 20, rfl, rfl⟩))) (fun k => ?_) (fun _ => ?_))
    · exfalso; simp at k; omega
    · exact db_nil (db_cons (ds_ret (de_call gV (hr.mono (by decide)) (das_v (de_call gP hr (das_w (dw_name 0) das_nil) ⟨n, r, rfl, wo, rfl⟩) (das_v (de_name 1) das_nil)) ⟨powersOf n r, m, rfl, by omega, by omega, rfl⟩) rfl))
abbrev s_many_signings : Stmt := top 73
theorem sc_many_signings : FnScope ["web"] ["web"] (defScope s_many_signings) := ⟨rfl, rfl, rfl, by decide +kernel, rfl, by decide +kernel, by decide +kernel⟩
def R_many_signings (sl : List Sl) (d : PyData) : Prop := ∃ n r, sl = [.web n r] ∧ WebOk n r ∧ d = .int (ab (valueAt (powersOf n r) (-1)))
theorem ok_many_signings (T : Tp mg) (gP : DFn PP w K mg base C "powers_of" 8 R_powers_of) (gV : DFn PP w K mg base C "value_at" 1 R_value_at) (F : Fun K "many_signings" "many_signings" s_many_signings f fd) : FnOk PP w K mg base CX0 9 f fd ["web"] (spD C R_many_signings) :=
  mkFn F sc_many_signings (fun sl d ⟨_, _, e, _⟩ => by rw [e]; rfl) fun cdv A outer s H E hr sl d hR => by
    obtain ⟨n, r, rfl, wo, rfl⟩ := hR
    exact db_cons (ds_ret (de_abs T (de_call gV (hr.mono (by decide)) (das_v (de_call gP hr (das_w (dw_name 0) das_nil) ⟨n, r, rfl, wo, rfl⟩) (das_v (de_neg de_int) das_nil)) ⟨powersOf n r, -1, rfl, by omega, by omega, rfl⟩)) rfl)
abbrev s_can_turn : Stmt := top 75
theorem sc_can_turn : FnScope ["web", "signs", "place", "arrows", "one", "other"] ["web", "signs", "place"] (defScope s_can_turn) := ⟨rfl, rfl, rfl, by decide +kernel, rfl, by decide +kernel, by decide +kernel⟩
def R_can_turn (sl : List Sl) (d : PyData) : Prop := ∃ (n : Nat) (r : List (Nat × Nat)) (sg : List Int) (p : Nat), sl = [.web n r, .v (dInts sg), .v (dI p)] ∧ r.length ≤ 10 ∧ d = .bool (canTurn r sg p)
theorem contains_cast2 (l : List Nat) (x : Nat) : (l.map fun x : Nat => (x : Int)).contains (x : Int) = l.contains x := by
  rw [contains_cast, Bool.eq_iff_iff, decide_eq_true_iff, List.contains_iff_mem]
theorem arrows_le {r : List (Nat × Nat)} {sg : List Int} : (arrowsOf r sg).length ≤ r.length := by unfold arrowsOf; rw [List.length_zipWith]; omega
theorem ok_can_turn (T : Tp mg) (gA : DFn PP w K mg base C "arrows_of" 1 R_arrows_of) (F : Fun K "can_turn" "can_turn" s_can_turn f fd) : FnOk PP w K mg base CX0 2 f fd ["web", "signs", "place"] (spD C R_can_turn) :=
  mkFn F sc_can_turn (fun sl d ⟨_, _, _, _, e, _⟩ => by rw [e]; rfl) fun cdv A outer s H E hr sl d hR => by
    obtain ⟨n, r, sg, p, rfl, h10, rfl⟩ := hR
    have nd := sc_can_turn.nd
    have hal := arrows_le (r := r) (sg := sg)
    refine db_cons (ds_set 3 (de_call gA hr (das_w (dw_name 0) (das_v (de_name 1) das_nil)) ⟨n, r, sg, rfl, h10, rfl⟩) ?_ nd)
    refine db_cons (ds_ret (de_or (k := !((arrowsOf r sg).map (·.1)).contains p) (k' := !((arrowsOf r sg).map (·.2)).contains p) ((de_cmp (dc_notInI (ns := ((arrowsOf r sg).map (·.1)).map fun x : Nat => (x : Int)) (de_name 2) ((dn_map [("one", 4), ("other", 5)] dP (arrowsOf r sg) (fun q => dI q.1) rfl sc_can_turn (di_list (de_name 3)) (by omega) fun q hq => ⟨_, _, ?_, ?_, fun s H Cc cl fp => ⟨dg_tup rfl (dgs_cons (dg_name 4 nd) (dgs_cons (dg_name 5 nd) dgs_nil)), de_name 4⟩⟩).dl.dq.cast ?_))).cast ?_)
      fun _ => de_one ((de_cmp (dc_notInI (ns := ((arrowsOf r sg).map (·.2)).map fun x : Nat => (x : Int)) (de_name 2) ((dn_map [("one", 4), ("other", 5)] dP (arrowsOf r sg) (fun q => dI q.2) rfl sc_can_turn (di_list (de_name 3)) (by omega) fun q hq => ⟨_, _, ?_, ?_, fun s H Cc cl fp => ⟨dg_tup rfl (dgs_cons (dg_name 4 nd) (dgs_cons (dg_name 5 nd) dgs_nil)), de_name 5⟩⟩).dl.dq.cast ?_))).cast ?_)) rfl)
    · decide
    · rfl
    · rw [List.map_map, List.map_map]; rfl
    · rw [contains_cast2]
    · decide
    · rfl
    · rw [List.map_map, List.map_map]; rfl
    · rw [contains_cast2]
abbrev s_turned_at : Stmt := top 76
theorem sc_turned_at : FnScope ["web", "signs", "place", "tie", "sign"] ["web", "signs", "place"] (defScope s_turned_at) := ⟨rfl, rfl, rfl, by decide +kernel, rfl, by decide +kernel, by decide +kernel⟩
def R_turned_at (sl : List Sl) (d : PyData) : Prop := ∃ (n : Nat) (r : List (Nat × Nat)) (sg : List Int) (p : Nat), sl = [.web n r, .v (dInts sg), .v (dI p)] ∧ r.length ≤ 10 ∧ d = dInts (turnedAt r sg p)
def dTS (q : (Nat × Nat) × Int) : PyData := .tuple [dP q.1, .int q.2]
theorem zip_dTS : ∀ (a : List (Nat × Nat)) (b : List Int), dZip (a.map dP) (b.map .int) = (a.zip b).map dTS
  | [], b => rfl
  | x :: a, [] => rfl
  | x :: a, y :: b => by
    show PyData.tuple [dP x, .int y] :: dZip (a.map dP) (b.map .int) = _
    rw [zip_dTS a b]; rfl
theorem zip_turn (p : Nat) : ∀ (a : List (Nat × Nat)) (b : List Int), (a.zip b).map (fun q => PyData.int (if p = q.1.1 ∨ p = q.1.2 then -q.2 else q.2)) = (turnedAt a b p).map .int
  | [], b => rfl
  | x :: a, [] => rfl
  | x :: a, y :: b => by
    show PyData.int (if p = x.1 ∨ p = x.2 then -y else y) :: ((a.zip b).map fun q => PyData.int (if p = q.1.1 ∨ p = q.1.2 then -q.2 else q.2)) = _
    rw [zip_turn p a b]; rfl
theorem ok_turned_at (T : Tp mg) (W : Wb K C) (F : Fun K "turned_at" "turned_at" s_turned_at f fd) : FnOk PP w K mg base CX0 1 f fd ["web", "signs", "place"] (spD C R_turned_at) :=
  mkFn F sc_turned_at (fun sl d ⟨_, _, _, _, e, _⟩ => by rw [e]; rfl) fun cdv A outer s H E hr sl d hR => by
    obtain ⟨n, r, sg, p, rfl, h10, rfl⟩ := hR
    have nd := sc_turned_at.nd
    refine db_cons (ds_ret (de_tuple T (dn_map [("tie", 3), ("sign", 4)] dTS (r.zip sg) (fun q => .int (if p = q.1.1 ∨ p = q.1.2 then -q.2 else q.2)) rfl sc_turned_at ((di_zipT T (de_rows W.cl W.nR (dw_name 0)) (de_name 1)).cast (zip_dTS _ _)) (by rw [List.length_zip]; omega) fun q hq => ⟨_, _, ?_, ?_, fun s H Cc cl fp => ⟨dg_tup rfl (dgs_cons (dg_name 3 nd) (dgs_cons (dg_name 4 nd) dgs_nil)), ?_⟩⟩).dl) ?_)
    · decide
    · rfl
    · refine de_if (dt_cmp (dc_inI (ns := [(q.1.1 : Int), (q.1.2 : Int)]) (de_name 2) (de_name (d := dP q.1) 3).dq)) (fun k => ?_) (fun k => ?_)
      · have k : p = q.1.1 ∨ p = q.1.2 := by simp at k; omega
        rw [if_pos k]; exact de_neg (de_name 4)
      · have k : ¬ (p = q.1.1 ∨ p = q.1.2) := by simp at k; omega
        rw [if_neg k]; exact de_name 4
    · rw [zip_turn]; rfl
end
end TD
namespace TD
open PySem L2 TS
section
variable {w : World} {K : PySem.W.Frag} {mg : Str → Option Value} {base : Heap} {C : Addr} {f : Addr} {fd : FuncData}
abbrev s_turned : Stmt := top 77
theorem sc_turned : FnScope ["web", "signs", "place"] ["web", "signs", "place"] (defScope s_turned) := ⟨rfl, rfl, rfl, by decide +kernel, rfl, by decide +kernel, by decide +kernel⟩
def R_turned (sl : List Sl) (d : PyData) : Prop := ∃ (n : Nat) (r : List (Nat × Nat)) (sg : List Int) (p : Nat), sl = [.web n r, .v (dInts sg), .v (dI p)] ∧ WebOk n r ∧ Rl n r sg ∧ p < n ∧ canTurn r sg p = true ∧ d = dInts (turnedAt r sg p)
theorem ok_turned (W : Wb K C) (gC : DFn PP w K mg base C "check_ringless" 4 R_check_ringless) (gI : DFn PP w K mg base C "is_from" 1 R_is_from) (gT : DFn PP w K mg base C "can_turn" 2 R_can_turn) (gA : DFn PP w K mg base C "turned_at" 1 R_turned_at) (F : Fun K "turned" "turned" s_turned f fd) : FnOk PP w K mg base CX0 5 f fd ["web", "signs", "place"] (spD C R_turned) :=
  mkFn F sc_turned (fun sl d ⟨_, _, _, _, e, _⟩ => by rw [e]; rfl) fun cdv A outer s H E hr sl d hR => by
    obtain ⟨n, r, sg, p, rfl, wo, so, hp, hc, rfl⟩ := hR
    refine db_cons (ds_expr (de_call gC hr (das_w (dw_name 0) (das_v (de_name 1) das_nil)) ⟨n, r, sg, rfl, wo, so, rfl⟩) ?_)
    refine db_cons (ds_if (dt_not (dt_val (de_call gI (hr.mono (by decide)) (das_v (de_name 2) (das_v de_int (das_v (de_sub (de_many W.cl W.nM (dw_name 0)) de_int) das_nil))) ⟨p, 0, (n : Int) - 1, rfl, rfl⟩))) (fun k => ?_) (fun _ => ?_))
    · exfalso; simp at k; omega
    refine db_nil (db_cons (ds_if (dt_not (dt_val (de_call gT (hr.mono (by decide)) (das_w (dw_name 0) (das_v (de_name 1) (das_v (de_name 2) das_nil))) ⟨n, r, sg, p, rfl, wo.len, rfl⟩))) (fun k => ?_) (fun _ => ?_)))
    · rw [hc] at k; cases k
    · exact db_nil (db_cons (ds_ret (de_call gA (hr.mono (by decide)) (das_w (dw_name 0) (das_v (de_name 1) (das_v (de_name 2) das_nil))) ⟨n, r, sg, p, rfl, wo.len, rfl⟩) rfl))
abbrev s_ring_apart : Stmt := top 80
theorem sc_ring_apart : FnScope ["web", "one", "other", "some", "ring"] ["web", "one", "other"] (defScope s_ring_apart) := ⟨rfl, rfl, rfl, by decide +kernel, rfl, by decide +kernel, by decide +kernel⟩
def ringApart (n : Nat) (r : List (Nat × Nat)) (a b : List Int) : Option (List Nat) := ((ringsD n r).filter fun x => !decide (fwd r a x = fwd r b x)).head?
def R_ring_apart (sl : List Sl) (d : PyData) : Prop := ∃ (n : Nat) (r : List (Nat × Nat)) (a b : List Int), sl = [.web n r, .v (dInts a), .v (dInts b)] ∧ WebOk n r ∧ Rl n r a ∧ Rl n r b ∧ d = dRing (ringApart n r a b)
theorem eqv_nats (l m : List (List Nat)) : PyData.eqv (.list (l.map dNats)) (.list (m.map dNats)) = decide (l = m) := eqv_dec (enc := fun l : List (List Nat) => PyData.list (l.map dNats)) (fun l => clean_map clean_dNats l) (fun a b h => map_inj dNats_inj (PyData.list.inj h)) l m
theorem ok_ring_apart (gC : DFn PP w K mg base C "check_ringless" 4 R_check_ringless) (gR : DFn PP w K mg base C "rings_of" 8 R_rings_of) (gF : DFn PP w K mg base C "forward" 2 R_forward) (F : Fun K "ring_apart" "ring_apart" s_ring_apart f fd) : FnOk PP w K mg base CX0 9 f fd ["web", "one", "other"] (spD C R_ring_apart) :=
  mkFn F sc_ring_apart (fun sl d ⟨_, _, _, _, e, _⟩ => by rw [e]; rfl) fun cdv A outer s H E hr sl d hR => by
    obtain ⟨n, r, a, b, rfl, wo, so, so2, rfl⟩ := hR
    have nd := sc_ring_apart.nd
    have hl := ringsD_len wo
    refine db_cons (ds_expr (de_call gC (hr.mono (by decide)) (das_w (dw_name 0) (das_v (de_name 1) das_nil)) ⟨n, r, a, rfl, wo, so, rfl⟩) ?_)
    refine db_cons (ds_expr (de_call gC (hr.mono (by decide)) (das_w (dw_name 0) (das_v (de_name 2) das_nil)) ⟨n, r, b, rfl, wo, so2, rfl⟩) ?_)
    refine db_cons (ds_setLc 3 [("ring", 4)] dNats (ringsD n r) (fun x => !decide (fwd r a x = fwd r b x)) dNats rfl sc_ring_apart (di_list (de_call gR hr (das_w (dw_name 0) das_nil) ⟨n, r, rfl, wo, rfl⟩)) (by omega) (fun x hx => ⟨_, _, ?_, ?_, fun s H Cc cl fp => ⟨dg_name 4 nd, dts_one ?_, fun _ => de_name 4⟩⟩) ?_)
    · decide
    · rfl
    · have hs := rings_short wo x hx
      refine (dt_cmp (dc_neI (de_call gF (hr.mono (by decide)) (das_w (dw_name 0) (das_v (de_name 1) (das_v (de_name 4) das_nil))) ⟨n, r, a, x, rfl, wo.len, hs.1, by omega, rfl⟩) (de_call gF (hr.mono (by decide)) (das_w (dw_name 0) (das_v (de_name 2) (das_v (de_name 4) das_nil))) ⟨n, r, b, x, rfl, wo.len, hs.1, by omega, rfl⟩))).cast ?_
      congr 1
      exact decide_eq_decide.mpr Int.ofNat_inj
    unfold ringApart
    generalize (ringsD n r).filter (fun x => !decide (fwd r a x = fwd r b x)) = some'
    refine db_cons (ds_ret (de_if (dt_cmp (dc_ne hr.units (de_name 3).dr (dn_nil).de.dr (lay_lst lay_dNats some').sh (lay_lst lay_dNats []).sh (by show (!PyData.eqv (.list (some'.map dNats)) (.list (([] : List (List Nat)).map dNats))) = _; rw [eqv_nats]))) (fun k => ?_) (fun k => ?_)) rfl)
    · cases some' with
      | nil => simp at k
      | cons x t => exact de_ixL (de_name 3).dl de_int (atI_nat (j := 0) (xs := (x :: t).map dNats) (v := dNats x) rfl)
    · cases some' with
      | nil => exact de_non
      | cons x t => simp at k
end
end TD
namespace TD
open PySem L2 TS
section
variable {w : World} {K : PySem.W.Frag} {mg : Str → Option Value} {base : Heap} {C : Addr} {f : Addr} {fd : FuncData}
def encF (f : Fnd) : List (List Int × PyData) := f.map fun p => (p.1, dNats p.2)
theorem lookD_enc (f : Fnd) (k : List Int) : lookD (encF f) k = (look f k).map dNats := by
  unfold lookD look encF
  induction f with
  | nil => rfl
  | cons p f ih =>
    rw [List.map_cons]
    by_cases e : p.1 = k
    · rw [List.find?_cons_of_pos (by simpa using e), List.find?_cons_of_pos (by simpa using e)]; rfl
    · rw [List.find?_cons_of_neg (by simpa using e), List.find?_cons_of_neg (by simpa using e)]; exact ih
theorem eqv_dSgs (l m : List (List Int)) : PyData.eqv (dSgs l) (dSgs m) = decide (l = m) := eqv_dec (enc := dSgs) (fun l => clean_map clean_dInts l) (fun a b h => map_inj dInts_inj (PyData.list.inj h)) l m
abbrev s_rows_from : Stmt := top 78
theorem sc_rows_from : FnScope ["web", "signs", "found", "waiting", "later", "one", "place", "told"] ["web", "signs"] (defScope s_rows_from) := ⟨rfl, rfl, rfl, by decide +kernel, rfl, by decide +kernel, by decide +kernel⟩
def R_rows_from (sl : List Sl) (kvs : List (List Int × PyData)) : Prop := ∃ n r sg, sl = [.web n r, .v (dInts sg)] ∧ WebOk n r ∧ SgOk r sg ∧ kvs = encF (rowsFrom n r sg)
theorem bfs_nil (n : Nat) (r : List (Nat × Nat)) (k : Nat) (f : Fnd) : bfs n r k f [] = f := by cases k <;> rfl
theorem ok_rows_from (T : Tp mg) (W : Wb K C) (gC : DFn PP w K mg base C "can_turn" 2 R_can_turn) (gA : DFn PP w K mg base C "turned_at" 1 R_turned_at) (F : Fun K "rows_from" "rows_from" s_rows_from f fd) : FnOk PP w K mg base CX0 3 f fd ["web", "signs"] (spDD C R_rows_from) :=
  mkFnD F sc_rows_from (fun sl d ⟨_, _, _, e, _⟩ => by rw [e]; rfl) fun cdv A outer s H E hr sl kvs hR => by
    obtain ⟨n, r, sg, rfl, wo, so, rfl⟩ := hR
    have nd := sc_rows_from.nd
    have h6 := wo.le
    have h10 := wo.len
    have hu : (A.deeper (PyProof.Rows.envOfC "rows_from" (defScope s_rows_from) s.heap.objs.size f cdv)).units + 1 < cLine := by have := hr.un; omega
    refine db_cons (ds_parDV 2 3 (kvs := encF [(sg, [])]) (d := dSgs [sg]) (dd_disp hu (de_name 1) (de_tup da_nil)) (dn_lst (da_cons (de_name 1) da_nil)).de ?_ rfl nd)
    refine db_cons (ds_while (fun m env => ∃ (fnd : Fnd) (wait : List (List Int)) (k : Nat) (x y z u : Sl), m = 2 * (1024 - fnd.length) + (if wait = [] then 0 else 1) ∧ m ≤ k ∧ bfs n r k fnd wait = rowsFrom n r sg ∧ BF r fnd (fnd, []) ∧ (∀ q ∈ wait, q ∈ fnd.map (·.1)) ∧ env = [.web n r, .v (dInts sg), .di (encF fnd), .v (dSgs wait), x, y, z, u]) PassesOwn.never (2 * 1023 + 1) ⟨[(sg, [])], [sg], 3000, .no, .no, .no, .no, rfl, by omega, rfl, ⟨by simp, by simpa using so, fun k hk => hk, (fun k hk => nomatch hk), rfl, by simp⟩, by simp, rfl⟩ ?_)
    rintro m env1 ⟨fnd, wait, k, x, y, z, u, hm, hk, hb, hB, hw, rfl⟩
    refine ⟨_, dt_cmp (dc_ne hr.units (de_name 3).dr (dn_nil).de.dr (lay_dSgs wait).sh (lay_dSgs []).sh (by show (!PyData.eqv (dSgs wait) (dSgs [])) = _; rw [eqv_dSgs])), fun k1 => ?_, fun k1 => ?_⟩
    · have hne : wait ≠ [] := by simpa using k1
      rw [if_neg hne] at hm
      obtain ⟨k', rfl⟩ : ∃ k', k = k' + 1 := ⟨k - 1, by omega⟩
      have hb2 : bfs n r k' (layer n r fnd wait).1 (layer n r fnd wait).2 = rowsFrom n r sg := by
        rw [← hb]
        cases wait with
        | nil => exact absurd rfl hne
        | cons a t => rfl
      have hB0 : BF r fnd (fnd, []) := hB
      refine db_cons (ds_setN 4 dn_nil ?_ nd)
      refine db_cons (ds_for (fun i env => ∃ y z u, env = [.web n r, .v (dInts sg), .di (encF ((wait.take i).foldl (oneStep n r) (fnd, [])).1), .v (dSgs wait), .mu (((wait.take i).foldl (oneStep n r) (fnd, [])).2.map dInts), y, z, u]) PassesOwn.never rfl (di_list (de_name 3)) ⟨y, z, u, rfl⟩ ?_ ?_)
      · rintro i d env2 hd ⟨y, z, u, rfl⟩
        obtain ⟨one, ho, rfl⟩ := map_get hd
        have hone := hw one (List.mem_of_getElem? ho)
        have tk : wait.take (i + 1) = wait.take i ++ [one] := by rw [List.take_add_one, ho]; rfl
        have hBi : BF r fnd ((wait.take i).foldl (oneStep n r) (fnd, [])) := BF.ones _ _ (fun q hq => hw q (List.mem_of_mem_take hq)) hB0
        rw [tk, List.foldl_append, List.foldl_cons, List.foldl_nil]
        generalize (wait.take i).foldl (oneStep n r) (fnd, []) = st at hBi
        unfold oneStep
        refine ⟨_, _, dg_name 5 nd, ?_⟩
        refine db_cons (ds_for (fun j env => ∃ z u, env = [.web n r, .v (dInts sg), .di (encF (((List.range j).foldl (placeStep r one) st).1)), .v (dSgs wait), .mu ((((List.range j).foldl (placeStep r one) st).2).map dInts), .v (dInts one), z, u]) PassesOwn.never rfl ((di_range1 T (de_many W.cl W.nM (dw_name 0)) ⟨by omega, by omega⟩).cast (?_ : _ = (List.range n).map dI)) ⟨z, u, rfl⟩ ?_ ?_)
        · unfold dRange dI; rw [Int.toNat_natCast]; simp
        · rintro j d env3 hd3 ⟨z, u, rfl⟩
          obtain ⟨p, hp, rfl⟩ := map_get hd3
          have hjn : j < n := by have := (List.getElem?_eq_some_iff.mp hp).1; rw [List.length_range] at this; exact this
          rw [List.getElem?_range hjn] at hp
          cases hp
          have hBj : BF r fnd ((List.range j).foldl (placeStep r one) st) := BF.places hone _ _ hBi
          have hnext : (List.range (j + 1)).foldl (placeStep r one) st = placeStep r one ((List.range j).foldl (placeStep r one) st) j := by rw [List.range_succ, List.foldl_append]; rfl
          rw [hnext]
          generalize (List.range j).foldl (placeStep r one) st = cur at hBj
          have hkeys := keys_le h10 hBj.nd hBj.sg
          have hlat : cur.2.length ≤ 1024 := by have := hBj.len; omega
          have hlk := look_some.mp (hBj.sub one hone)
          refine ⟨_, _, dg_name 6 nd, ?_⟩
          refine db_cons (ds_if (dt_val (de_call gC hr (das_w (dw_name 0) (das_v (de_name 5) (das_v (de_name 6) das_nil))) ⟨n, r, one, j, rfl, h10, rfl⟩)) (fun k2 => ?_) (fun k2 => ?_))
          · refine db_cons (ds_set 7 (de_call gA (hr.mono (by decide)) (das_w (dw_name 0) (das_v (de_name 5) (das_v (de_name 6) das_nil))) ⟨n, r, one, j, rfl, h10, rfl⟩) ?_ nd)
            unfold placeStep
            rw [if_pos k2]
            refine db_cons (ds_if (k := !(look cur.1 (turnedAt r one j)).isSome) ((dt_cmp (dc_notinD hu 2 rfl (de_name (d := .tuple ((turnedAt r one j).map .int)) 7))).cast (by rw [lookD_enc, Option.isSome_map])) (fun k3 => ?_) (fun k3 => ?_))
            · have k3 : (look cur.1 (turnedAt r one j)).isSome = false := by simpa using k3
              rw [k3, if_neg Bool.false_ne_true]
              obtain ⟨path, hpath⟩ := Option.isSome_iff_exists.mp hlk
              have hpl : path.length < 1025 := by
                unfold look at hpath
                obtain ⟨q, hq, rfl⟩ := Option.map_eq_some_iff.mp hpath
                have := hBj.pl q (List.mem_of_find?_eq_some hq)
                omega
              rw [hpath]
              refine db_cons (ds_putD hu 2 (d := dNats (path ++ [j])) rfl (de_name (d := .tuple ((turnedAt r one j).map .int)) 7) ((de_tup (da_star (de_getD (d := dNats path) hu 2 rfl (de_name (d := .tuple (one.map .int)) 5) (by rw [lookD_enc, hpath]; rfl)).dq (da_cons (de_name 6) da_nil)) ?_).cast ?_) ?_ ?_ ?_)
              · rw [List.length_append, List.length_map, sizeLine_eq]; simp; omega
              · show PyData.tuple (path.map dI ++ [dI j]) = PyData.tuple ((path ++ [j]).map dI)
                rw [List.map_append]; rfl
              · rw [lookD_enc, Option.map_eq_none_iff]
                cases hh : look cur.1 (turnedAt r one j) with
                | none => rfl
                | some _ => rw [hh] at k3; cases k3
              · unfold encF; rw [List.length_map]; omega
              · refine db_cons (ds_append 4 rfl (de_name 7) (by rw [List.length_map]; omega) (db_nil (db_nil (db_nil ⟨.v (dI j), .v (dInts (turnedAt r one j)), ?_⟩))))
                show [Sl.web n r, .v (dInts sg), .di (encF cur.1 ++ [(turnedAt r one j, dNats (path ++ [j]))]), .v (dSgs wait), .mu (cur.2.map dInts ++ [dInts (turnedAt r one j)]), .v (dInts one), .v (dI j), .v (dInts (turnedAt r one j))] = _
                unfold encF
                rw [List.map_append, List.map_append]; rfl
            · have k3 : (look cur.1 (turnedAt r one j)).isSome = true := by simpa using k3
              rw [if_pos k3]
              exact db_nil (db_nil (db_nil ⟨.v (dI j), .v (dInts (turnedAt r one j)), rfl⟩))
          · unfold placeStep
            rw [if_neg (by rw [k2]; decide)]
            exact db_nil (db_nil ⟨.v (dI j), u, rfl⟩)
        · rintro env3 ⟨z, u, rfl⟩
          rw [List.length_map, List.length_range]
          exact db_nil ⟨.v (dInts one), z, u, rfl⟩
      · rintro env2 ⟨y, z, u, rfl⟩
        rw [List.take_of_length_le (by rw [List.length_map]; exact Nat.le_refl _)]
        have hBl : BF r fnd (wait.foldl (oneStep n r) (fnd, [])) := BF.ones _ _ hw hB0
        have hlay : wait.foldl (oneStep n r) (fnd, []) = layer n r fnd wait := rfl
        rw [hlay] at hBl ⊢
        generalize layer n r fnd wait = st at hBl hb2
        have hkeys := keys_le h10 hBl.nd hBl.sg
        have hlen := hBl.len
        refine db_freeze 4 rfl (db_cons (ds_set 3 (de_name 4) (db_nil ⟨2 * (1024 - st.1.length) + (if st.2 = [] then 0 else 1), ?_, st.1, st.2, k', .v (dSgs st.2), y, z, u, rfl, ?_, hb2, ⟨hBl.nd, hBl.sg, fun _ h => h, (fun _ h => nomatch h), rfl, hBl.pl⟩, hBl.lat, rfl⟩) nd))
        · by_cases e : st.2 = []
          · rw [if_pos e]; rw [e] at hlen; simp at hlen; omega
          · have : 0 < st.2.length := List.length_pos_iff.mpr e
            rw [if_neg e]; omega
        · by_cases e : st.2 = []
          · rw [if_pos e]; rw [e] at hlen; simp at hlen; omega
          · have : 0 < st.2.length := List.length_pos_iff.mpr e
            rw [if_neg e]; omega
    · have hne : wait = [] := by simpa using k1
      subst hne
      rw [bfs_nil] at hb
      subst hb
      exact db_cons (ds_retD 2 rfl (fun H0 G' H' a ks h0 h1 h2 h3 => ⟨a, ks, rfl, h0, h1, h2, h3⟩))
end
end TD
namespace TD
open PySem L2 TS
section
variable {w : World} {K : PySem.W.Frag} {mg : Str → Option Value} {base : Heap} {C : Addr} {f : Addr} {fd : FuncData}
abbrev s_turns : Stmt := top 79
theorem sc_turns : FnScope ["web", "one", "other"] ["web", "one", "other"] (defScope s_turns) := ⟨rfl, rfl, rfl, by decide +kernel, rfl, by decide +kernel, by decide +kernel⟩
def R_turns (sl : List Sl) (d : PyData) : Prop := ∃ (n : Nat) (r : List (Nat × Nat)) (a b : List Int), sl = [.web n r, .v (dInts a), .v (dInts b)] ∧ WebOk n r ∧ Rl n r a ∧ Rl n r b ∧ d = dRing (look (rowsFrom n r a) b)
theorem ok_turns (gC : DFn PP w K mg base C "check_ringless" 4 R_check_ringless) (gR : DFnD PP w K mg base C "rows_from" 3 R_rows_from) (F : Fun K "turns" "turns" s_turns f fd) : FnOk PP w K mg base CX0 5 f fd ["web", "one", "other"] (spD C R_turns) :=
  mkFn F sc_turns (fun sl d ⟨_, _, _, _, e, _⟩ => by rw [e]; rfl) fun cdv A outer s H E hr sl d hR => by
    obtain ⟨n, r, a, b, rfl, wo, so, so2, rfl⟩ := hR
    have hu : (A.deeper (PyProof.Rows.envOfC "turns" (defScope s_turns) s.heap.objs.size f cdv)).units + 1 < cLine := by have := hr.un; omega
    refine db_cons (ds_expr (de_call gC hr (das_w (dw_name 0) (das_v (de_name 1) das_nil)) ⟨n, r, a, rfl, wo, so, rfl⟩) ?_)
    refine db_cons (ds_expr (de_call gC hr (das_w (dw_name 0) (das_v (de_name 2) das_nil)) ⟨n, r, b, rfl, wo, so2, rfl⟩) ?_)
    refine db_cons (ds_ret (de_getD2 (k := b) hu (dd_call gR (hr.mono (by decide)) (das_w (dw_name 0) (das_v (de_name 1) das_nil)) ⟨n, r, a, rfl, wo, so.1, rfl⟩) (de_name 2)) ?_)
    rw [lookD_enc]
    cases look (rowsFrom n r a) b <;> rfl
abbrev s_all_turned : Stmt := top 81
theorem sc_all_turned : FnScope ["web", "signs"] ["web", "signs"] (defScope s_all_turned) := ⟨rfl, rfl, rfl, by decide +kernel, rfl, by decide +kernel, by decide +kernel⟩
def allTurned (n : Nat) (r : List (Nat × Nat)) (sg : List Int) : List (List Int) := ((rowsFrom n r sg).map (·.1)).mergeSort (PySem.W.dataLe false dIs)
theorem allTurned_perm (n : Nat) (r : List (Nat × Nat)) (sg : List Int) : (allTurned n r sg).Perm ((rowsFrom n r sg).map (·.1)) := List.mergeSort_perm _ _
def R_all_turned (sl : List Sl) (d : PyData) : Prop := ∃ (n : Nat) (r : List (Nat × Nat)) (a : List Int), sl = [.web n r, .v (dInts a)] ∧ WebOk n r ∧ Rl n r a ∧ d = dSgs (allTurned n r a)
theorem ok_all_turned (T : Tp mg) (gC : DFn PP w K mg base C "check_ringless" 4 R_check_ringless) (gR : DFnD PP w K mg base C "rows_from" 3 R_rows_from) (F : Fun K "all_turned" "all_turned" s_all_turned f fd) : FnOk PP w K mg base CX0 5 f fd ["web", "signs"] (spD C R_all_turned) :=
  mkFn F sc_all_turned (fun sl d ⟨_, _, _, e, _⟩ => by rw [e]; rfl) fun cdv A outer s H E hr sl d hR => by
    obtain ⟨n, r, a, rfl, wo, so, rfl⟩ := hR
    have hu : (A.deeper (PyProof.Rows.envOfC "all_turned" (defScope s_all_turned) s.heap.objs.size f cdv)).units + 65 < cLine := by have := hr.un; omega
    have hB := rows_BF (n := n) so.1
    have ek : (encF (rowsFrom n r a)).map (·.1) = (rowsFrom n r a).map (·.1) := by unfold encF; rw [List.map_map]; rfl
    refine db_cons (ds_expr (de_call gC hr (das_w (dw_name 0) (das_v (de_name 1) das_nil)) ⟨n, r, a, rfl, wo, so, rfl⟩) ?_)
    refine db_cons (ds_ret (dn_sortedDT T rfl hu (dd_call gR (hr.mono (by decide)) (das_w (dw_name 0) (das_v (de_name 1) das_nil)) ⟨n, r, a, rfl, wo, so.1, rfl⟩) ?_).de ?_)
    · rw [ek]
      by_cases e : r = []
      · refine .inr (nodup_sub _ [[]] hB.nd fun k hk => ?_)
        have := (hB.sg k hk).len
        rw [e] at this
        rw [List.length_eq_zero_iff.mp this]; exact List.mem_cons_self
      · refine .inl fun k hk z => e ?_
        have := (hB.sg k hk).len
        rw [z] at this
        exact List.length_eq_zero_iff.mp this.symm
    · rw [ek]; rfl
def R_heights_F (sl : List Sl) (ns : List Int) : Prop := ∃ n r sg, sl = [.web n r, .v (dInts sg)] ∧ WebOk n r ∧ heightsOf n r sg = some ns
theorem ok_heights_F (T : Tp mg) (W : Wb K C) (gA : DFn PP w K mg base C "arrows_of" 1 R_arrows_of) (F : Fun K "heights_of" "heights_of" s_heights_of f fd) : FnOk PP w K mg base CX0 2 f fd ["web", "signs"] (spDF C R_heights_F) :=
  mkFnF F sc_heights_of (fun sl d ⟨_, _, _, e, _⟩ => by rw [e]; rfl) fun cdv A outer s H E hr sl ns hR => by
    obtain ⟨n, r, sg, rfl, wo, hns⟩ := hR
    have nd := sc_heights_of.nd
    have hle := wo.le
    have hin := arcs1_in (arrows_lt (sg := sg) wo.lt)
    refine db_cons (ds_parN 2 3 (de_call gA hr (das_w (dw_name 0) (das_v (de_name 1) das_nil)) ⟨n, r, sg, rfl, wo.len, rfl⟩) (dn_rep1 (dn_lst (da_cons de_int da_nil)).dl (de_many W.cl W.nM (dw_name 0)) (by omega)) ?_ rfl nd)
    refine db_cons (ds_for (fun i env => ∃ f x y z u, env = [.web n r, .v (dInts sg), .v (.list ((arrowsOf r sg).map dP)), .mu (f.map .int), x, y, z, u] ∧ f.length = n ∧ heightsOf n r sg = bf (n - i) (arcs1 (arrowsOf r sg)) f) PassesOwn.never rfl
      (di_range1 T (de_many W.cl W.nM (dw_name 0)) ⟨by omega, by omega⟩) ⟨zeros n, .no, .no, .no, .no, ?_, zeros_len n, rfl⟩ ?_ ?_)
    · show [Sl.web n r, .v (dInts sg), .v (.list ((arrowsOf r sg).map dP)), .mu (List.replicate n (.int 0)), .no, .no, .no, .no] = _
      rw [zeros, List.map_replicate]
    · rintro i d env1 hd ⟨f, x, y, z, u, rfl, hl, hh⟩
      have hi : i < n := by
        have := (List.getElem?_eq_some_iff.mp hd).1
        unfold dRange at this
        rw [List.length_map, List.length_range] at this
        omega
      refine ⟨_, _, dg_name 4 nd, ?_⟩
      refine db_cons (ds_set 5 (dn_list T (dl_name 3).dq).de ?_ nd)
      refine db_cons (ds_for (fun j env => ∃ z u, env = [.web n r, .v (dInts sg), .v (.list ((arrowsOf r sg).map dP)), .mu ((round ((arcs1 (arrowsOf r sg)).take j) f).map .int), .v d, .v (dIntsL f), z, u]) PassesOwn.never rfl (di_list (de_name 2)) ⟨z, u, rfl⟩ ?_ ?_)
      · rintro j e env2 he ⟨z, u, rfl⟩
        obtain ⟨p, hp, rfl⟩ := map_get he
        have hpn := arrows_lt (sg := sg) wo.lt p (List.mem_of_getElem? hp)
        have hl2 : (round ((arcs1 (arrowsOf r sg)).take j) f).length = n := by rw [round_len, hl]
        have hstep : round ((arcs1 (arrowsOf r sg)).take (j + 1)) f = relax (round ((arcs1 (arrowsOf r sg)).take j) f) (p.1, p.2, 1) := by
          have e2 : (arcs1 (arrowsOf r sg))[j]? = some (p.1, p.2, 1) := by unfold arcs1; rw [List.getElem?_map, hp]; rfl
          rw [List.take_add_one, e2]
          unfold round
          rw [List.foldl_append]; rfl
        refine ⟨_, _, dg_tup rfl (dgs_cons (dg_name 6 nd) (dgs_cons (dg_name 7 nd) dgs_nil)), ?_⟩
        refine db_cons (ds_setI 3 rfl (de_max2 T rfl (de_ixL (dl_name 3) (de_name 7) (atI_ints (by rw [hl2]; exact hpn.2))) (de_add (de_ixL (dl_name 3) (de_name 6) (atI_ints (by rw [hl2]; exact hpn.1))) de_int)) (de_name 7) (by rw [List.length_map, hl2]; exact hpn.2) ?_)
        refine db_nil ⟨.v (dI p.1), .v (dI p.2), ?_⟩
        rw [max_if, set_ints, hstep]
        rfl
      · rintro env2 ⟨z, u, rfl⟩
        have hfull : (arcs1 (arrowsOf r sg)).take ((arrowsOf r sg).map dP).length = arcs1 (arrowsOf r sg) := List.take_of_length_le (by unfold arcs1; rw [List.length_map, List.length_map]; exact Nat.le_refl _)
        rw [hfull]
        refine db_cons (ds_if (dt_cmp (dc_eq hr.units (de_name 5).dr (dl_name 3).dr (lay_dIntsL _).sh (lay_dIntsL _).sh (eqv_dIntsL f (round (arcs1 (arrowsOf r sg)) f)))) (fun k => ?_) (fun k => ?_))
        · have e : round (arcs1 (arrowsOf r sg)) f = ns := by
            rw [hh, show n - i = (n - i - 1) + 1 by omega, bf, if_pos (of_decide_eq_true k)] at hns
            exact Option.some.inj hns
          rw [e]
          exact db_cons (ds_retF (df_tuple T (dl_name 3)) (fun H0 G' H' v hv => ⟨v, rfl, hv⟩))
        · refine db_nil (db_nil ⟨_, _, _, _, _, rfl, by rw [round_len, hl], ?_⟩)
          rw [hh, show n - i = (n - (i + 1)) + 1 by omega, bf, if_neg (of_decide_eq_false k)]
    · rintro env1 ⟨f, x, y, z, u, rfl, hl, hh⟩
      exfalso
      have : (dRange 0 ((n : Int)).toNat).length = n := by unfold dRange; rw [List.length_map, List.length_range]; omega
      rw [hh, this, Nat.sub_self] at hns
      cases hns
abbrev s_way_of : Stmt := top 31
theorem sc_way_of : FnScope ["web", "signs", "heights", "arrows", "place", "found", "some", "one", "other"] ["web", "signs"] (defScope s_way_of) := ⟨rfl, rfl, rfl, by decide +kernel, rfl, by decide +kernel, by decide +kernel⟩
def R_way_of (sl : List Sl) (d : PyData) : Prop := ∃ n r sg h, sl = [.web n r, .v (dInts sg)] ∧ WebOk n r ∧ SgOk r sg ∧ heightsOf n r sg = some h ∧ d = dNats (wayOf n r sg h)
theorem gt_getElem {l : List Int} {i : Nat} (h : i < l.length) : l[i]? = some (gt l i) := by
  unfold gt; rw [List.getD_eq_getElem?_getD, List.getElem?_eq_getElem h]; rfl
theorem ok_way_of (T : Tp mg) (gH : DFnF PP w K mg base C "heights_of" 2 R_heights_F) (gA : DFn PP w K mg base C "arrows_of" 1 R_arrows_of) (F : Fun K "way_of" "way_of" s_way_of f fd) : FnOk PP w K mg base CX0 3 f fd ["web", "signs"] (spD C R_way_of) :=
  mkFn F sc_way_of (fun sl d ⟨_, _, _, _, e, _⟩ => by rw [e]; rfl) fun cdv A outer s H E hr sl d hR => by
    obtain ⟨n, r, sg, h, rfl, wo, so, hh, rfl⟩ := hR
    have nd := sc_way_of.nd
    have hle := wo.le
    have HT := hts_of wo hh
    have hln := HT.len
    have hpos := wo.pos
    have hne : h ≠ [] := fun z => by rw [z] at hln; simp at hln; omega
    have hal := arrows_le (r := r) (sg := sg)
    have h10 := wo.len
    have hu : (A.deeper (PyProof.Rows.envOfC "way_of" (defScope s_way_of) s.heap.objs.size f cdv)).units + 2 < cLine := by have := hr.un; omega
    have hidx : h.idxOf (topOf h) < h.length := List.idxOf_lt_length_iff.mpr (topOf_mem hne)
    have hget : h[h.idxOf (topOf h)]? = some (topOf h) := by rw [List.getElem?_eq_getElem hidx, List.getElem_idxOf]
    have htop : gt h (h.idxOf (topOf h)) = topOf h := by have := gt_getElem hidx; rw [hget] at this; exact (Option.some.inj this).symm
    refine db_cons (ds_parFG 2 3 (df_call gH hr (das_w (dw_name 0) (das_v (de_name 1) das_nil)) ⟨n, r, sg, rfl, wo, hh⟩) (de_call gA (hr.mono (by decide)) (das_w (dw_name 0) (das_v (de_name 1) das_nil)) ⟨n, r, sg, rfl, wo.len, rfl⟩) ?_ rfl nd)
    refine db_cons (ds_set 4 (de_indexF (df_name 2) (de_maxF (i := topOf h) T rfl hu (df_name 2) (topOf_mem hne) topOf_le) hget (fun m hm e => ?_)) ?_ nd)
    · have hml : m < h.length := by omega
      rw [List.getElem?_eq_getElem hml] at e
      have hm' : m < h.findIdx (· == topOf h) := hm
      have := List.not_of_lt_findIdx hm'
      rw [Option.some.inj e] at this
      simp at this
    refine db_cons (ds_set 5 (dn_lst (da_cons (de_name 4) da_nil)).de ?_ nd)
    refine db_cons (ds_while (fun m env => ∃ (v : Nat) (t : List Nat) (x : Sl), v < n ∧ gt h v = (m : Int) ∧ m + t.length ≤ 100 ∧ wayFrom (arrowsOf r sg) h m (v :: t) = wayOf n r sg h ∧ env = [.web n r, .v (dInts sg), .fz h, .v (.list ((arrowsOf r sg).map dP)), .v (dI (h.idxOf (topOf h))), .v (.list ((v :: t).map dI)), x, .no, .no]) PassesOwn.never (topOf h).toNat ⟨h.idxOf (topOf h), [], .no, by omega, ?_, ?_, rfl, rfl⟩ ?_)
    · have := HT.nn (h.idxOf (topOf h)); omega
    · have := HT.lt (h.idxOf (topOf h)) (by omega); simp; omega
    rintro m env1 ⟨v, t, x, hv, hm, hmt, hw, rfl⟩
    refine ⟨_, dt_cmp (dc_gt (de_ixF (df_name 2) (de_ixL (de_name 5).dl de_int (atI_nats (l := v :: t) (i := 0) (by simp))) (gt_getElem (by show v < h.length; omega))) de_int), fun k => ?_, fun k => ?_⟩
    · have k : (0 : Int) < gt h v := of_decide_eq_true k
      obtain ⟨m', rfl⟩ : ∃ m', m = m' + 1 := ⟨m - 1, by omega⟩
      have hpne : preds (arrowsOf r sg) h v ≠ [] := fun z => by
        obtain ⟨p, hp, h1, h2⟩ := HT.pr v k
        have : p.1 ∈ preds (arrowsOf r sg) h v := preds_mem.mpr ⟨by rw [← h1]; exact hp, h2⟩
        rw [z] at this; cases this
      refine db_cons (ds_setLc 6 [("one", 7), ("other", 8)] dP (arrowsOf r sg) (fun p => decide (p.2 = v) && decide (gt h p.1 = gt h v - 1)) (fun p => dI p.1) rfl sc_way_of (di_list (de_name 3)) (by omega) (fun p hp => ⟨_, _, ?_, ?_, fun s H Cc cl fp => ⟨dg_tup rfl (dgs_cons (dg_name 7 nd) (dgs_cons (dg_name 8 nd) dgs_nil)), dts_one ?_, fun _ => de_name 7⟩⟩) ?_)
      · decide
      · rfl
      · have hpn := arrows_lt (sg := sg) wo.lt p hp
        refine (DPW.dt (dw_and ((dt_cmp (dc_eqI (de_name 8) (de_ixL (de_name 5).dl de_int (atI_nats (l := v :: t) (i := 0) (by simp))))).cast (decide_eq_decide.mpr Int.ofNat_inj)) (dw_and1 (dt_cmp (dc_eqI (de_ixF (df_name 2) (de_name 7) (gt_getElem (by omega))) (de_sub (de_ixF (df_name 2) (de_ixL (de_name 5).dl de_int (atI_nats (l := v :: t) (i := 0) (by simp))) (gt_getElem (by show v < h.length; omega))) de_int))))))
      · have e : (((arrowsOf r sg).filter (fun p => decide (p.2 = v) && decide (gt h p.1 = gt h v - 1))).map fun p => dI p.1) = (preds (arrowsOf r sg) h v).map dI := by unfold preds; rw [List.map_map]; rfl
        rw [e]
        have hmm := minN_mem hpne
        obtain ⟨hmem, hmin⟩ := preds_mem.mp hmm
        have hmn := arrows_lt (sg := sg) wo.lt _ hmem
        refine db_cons (ds_set 5 ((dn_lst (da_cons (d := dI (minN (preds (arrowsOf r sg) h v))) (de_min (ns := (preds (arrowsOf r sg) h v).map fun x : Nat => (x : Int)) (i := (minN (preds (arrowsOf r sg) h v) : Nat)) T rfl ((de_name 6).dl.cast (cast_nats _)) (List.mem_map.mpr ⟨_, hmm, rfl⟩) (fun y hy => ?_)) (da_star (de_name 5).dq' da_nil)) ?_).de.cast (?_ : _ = PyData.list ((minN (preds (arrowsOf r sg) h v) :: v :: t).map dI))) (db_nil ⟨m', by omega, minN (preds (arrowsOf r sg) h v), v :: t, _, hmn.1, by omega, by rw [List.length_cons]; omega, ?_, rfl⟩) nd)
        · obtain ⟨z, hz, rfl⟩ := List.mem_map.mp hy
          have := minN_le z hz
          omega
        · rw [List.append_nil, List.length_cons, List.length_map, sizeLine_eq]; simp; omega
        · rw [List.append_nil]; rfl
        · rw [← hw]
          show _ = (if 0 < gt h ((v :: t).headD 0) then wayFrom (arrowsOf r sg) h m' (minN (preds (arrowsOf r sg) h v) :: v :: t) else v :: t)
          rw [if_pos (show 0 < gt h ((v :: t).headD 0) from k)]
    · have k : ¬ (0 : Int) < gt h v := of_decide_eq_false k
      have hm0 : m = 0 := by omega
      subst hm0
      refine db_cons (ds_ret (de_tuple T (de_name 5).dl) ?_)
      rw [← hw]; rfl
abbrev s_longest : Stmt := top 30
theorem sc_longest : FnScope ["web", "signs"] ["web", "signs"] (defScope s_longest) := ⟨rfl, rfl, rfl, by decide +kernel, rfl, by decide +kernel, by decide +kernel⟩
theorem ok_longest (gC : DFn PP w K mg base C "check_ringless" 4 R_check_ringless) (gW : DFn PP w K mg base C "way_of" 3 R_way_of) (F : Fun K "longest" "longest" s_longest f fd) : FnOk PP w K mg base CX0 5 f fd ["web", "signs"] (spD C R_way_of) :=
  mkFn F sc_longest (fun sl d ⟨_, _, _, _, e, _⟩ => by rw [e]; rfl) fun cdv A outer s H E hr sl d hR => by
    obtain ⟨n, r, sg, h, rfl, wo, so, hh, rfl⟩ := hR
    refine db_cons (ds_expr (de_call gC hr (das_w (dw_name 0) (das_v (de_name 1) das_nil)) ⟨n, r, sg, rfl, wo, ⟨so, h, hh⟩, rfl⟩) ?_)
    exact db_cons (ds_ret (de_call gW (hr.mono (by decide)) (das_w (dw_name 0) (das_v (de_name 1) das_nil)) ⟨n, r, sg, h, rfl, wo, so, hh, rfl⟩) rfl)
end
end TD
namespace L2
open PySem PySem.Spec PyProof.Rows PySem.W
theorem meets_enumerate_newB1 {v : Value} {o : Obj} {H : Heap → Prop} (B : Begins v o H) :
    Meets (Builtin.«enumerate.__new__» ⟨[.type "enumerate", v], []⟩) (fun _ R s => H s.heap ∧
      R (.ok (.ret (.ref (s.heap.push o).objs.size))) { s with heap := (s.heap.push o).push { cls := .type "enumerate", data := .fields #[.none, .bool false, .ref s.heap.objs.size, rawInt 0, .none, .none] } }) :=
  .of_wp fun prog w A R s h => by
    obtain ⟨hp, g, d, tk, os⟩ := s; obtain ⟨h1, h⟩ := h
    have hsub := sub_enumerate
    have q1 : ∀ {A' : Around} {E : Value → Shared → Prop} {Q : Value → Shared → Prop}, Q (.ref hp.objs.size) ⟨hp.push o, g, d, tk, os⟩ → wpAny (model prog w) A' (pyIter v) Q E ⟨hp, g, d, tk, os⟩ :=
      fun q => B.iter prog w _ _ ⟨hp, g, d, tk, os⟩ _ h1 q
    wp_walk using q1
    refine wpAny_stack_any fun st => wpAny_pure ?_
    split
    · rename_i c _ _ _ _ _
      cases (c == Value.type "enumerate")
      · wp_walk using q1
        exact ⟨_, rfl, h⟩
      · wp_walk using q1
        exact ⟨_, rfl, h⟩
    · wp_walk using q1
      exact ⟨_, rfl, h⟩
section
variable {prog : Program} {w : World} {A : Around} {E : Value → Shared → Prop} {s : Shared}
theorem enum_begins1 {v : Value} {o : Obj} {H : Heap → Prop} {Q : Value → Shared → Prop} (B : Begins v o H) (h1 : H s.heap)
    (h : ∀ h', IsEnum h' (s.heap.objs.size + 1) s.heap.objs.size 0 .none → h'.get? s.heap.objs.size = some o → h'.objs.size = s.heap.objs.size + 2 →
      (∀ b o, s.heap.get? b = some o → h'.get? b = some o) → Q (.ref (s.heap.objs.size + 1)) { s with heap := h' }) :
    wpAny (model prog w) A (call (.type "enumerate") [v]) Q E s := by
  refine callType_new F.called_enumerate (by decide) (F.typeCall_enumerate_1 _) (F.newCall_enumerate_1 _) (fun obj => F.args_object_init_2 obj _) F.entry_enumerate_new
    (meets_enumerate_newB1 B) ⟨h1, ?_⟩
  have hz : (s.heap.push o).objs.size = s.heap.objs.size + 1 := Heap.size_push ..
  show _ ∧ _
  rw [hz]
  have he : IsEnum ((s.heap.push o).push { cls := .type "enumerate", data := .fields #[.none, .bool false, .ref s.heap.objs.size, rawInt 0, .none, .none] }) (s.heap.objs.size + 1) s.heap.objs.size 0 .none := by
    have := Heap.get?_push_size (s.heap.push o) (o := { cls := .type "enumerate", data := .fields #[.none, .bool false, .ref s.heap.objs.size, rawInt 0, .none, .none] }) rfl
    rw [hz] at this; exact this
  refine ⟨⟨_, he, rfl⟩, h _ he (Heap.get?_push_of_some _ (Heap.get?_push_size _ B.free)) (by rw [Heap.size_push, hz]) fun b o x => Heap.get?_push_of_some _ (Heap.get?_push_of_some _ x)⟩
end
/-- the tuple at a, each item in a new pair -/
def IteT (K : PySem.W.Frag) (a : Addr) : It :=
  ⟨fun i H => ∃ (xs : List V) (x : V), SqT K H a xs ∧ xs[i]? = some x, fun i H v H' => ∃ T x, v = .ref T ∧ H T = none ∧ H' = upd H T (.tup [.int (i : Nat), x]) ∧ ∀ xs, SqT K H a xs → xs[i]? = some x, fun i H => ∃ xs : List V, SqT K H a xs ∧ xs.length ≤ i⟩
theorem turn_enumT {P : Program} {w : World} {K : PySem.W.Frag} {elts : List Expr} {kk : Nat} {tpos : Pos} (a e it : Addr) (hat : a ≠ it) (hae : e ≠ a) :
    Turn P w K (.Tuple elts kk tpos) (IteT K a) [e, it] e (fun i h => (∃ old, IsEnum h e it ((i : Nat) : Int) old) ∧ h.IsTupleIter it a i ∧ e ≠ it) where
  mem := by simp
  obj := fun i h st b hb => by
    obtain ⟨⟨old, he⟩, ⟨o, ho, hc, hd⟩, _⟩ := st
    have e' : b = e ∨ b = it := by simpa using hb
    rcases e' with z | z
    · rw [z]; exact ⟨_, he, fun v q => nomatch q⟩
    · rw [z]; exact ⟨o, ho, fun v q => by rw [hd] at q; cases q⟩
  keep := fun i h h' st k => let ⟨⟨old, he⟩, hi, hne⟩ := st; ⟨⟨old, k e (by simp) _ he⟩, hi.at fun o q => k it (by simp) o q, hne⟩
  item := by
    intro X hP hw hK hc i pins s σ H E I hf st hg
    subst hP hw hK
    obtain ⟨⟨old, he⟩, hit, hne⟩ := st
    obtain ⟨xs, x, hq, hx⟩ := hg
    obtain ⟨its, rv, p, hz⟩ := I.tuple hq
    obtain ⟨u, hu, ru⟩ := rv.get hx
    have hel : e < s.heap.objs.size := Heap.lt_size he
    have hil : it < s.heap.objs.size := by obtain ⟨_, q, _⟩ := hit; exact Heap.lt_size q
    have hlt : i < its.toArray.size := by rw [List.size_toArray]; exact (List.getElem?_eq_some_iff.mp hu).1
    refine wpAny_pyNext_enum_itemD (Draws.tuple (A := X.A.in1) (I.ok.hd hc) it a hat its.toArray) he ⟨hit, p⟩ hlt hne (by simp [hne, hae]) fun u2 h' tk hu2 ho hst hT hsz hk => ?_
    have hu2 : its.toArray[i]? = some u2 := hu2
    have e2 : u2 = u := by
      rw [← Array.getElem?_toList] at hu2
      have : its[i]? = some u2 := by simpa using hu2
      rw [hu] at this; exact (Option.some.inj this).symm
    subst e2
    refine ⟨_, rfl, wpAny_letOwnedTupleGo_enum (s := { s with heap := h', toks := tk + 1 }) ho fun h'' he' sb => ?_⟩
    have hT2 : h''.get? s.heap.objs.size = some { cls := .type "tuple", data := .seq #[.int i tk, u2] } := (sb.2 _ (Nat.ne_of_gt hel)).trans hT
    have new : ObjOk X.prog X.w (upd H s.heap.objs.size (.tup [.int (i : Nat), x])) h'' s.heap.objs.size (.tup [.int (i : Nat), x]) :=
      ⟨by show 2 ≤ sizeLine; decide, [.int i tk, u2], .cons ⟨_, rfl⟩ (.cons ru .nil), ⟨_, hT2, rfl, _, rfl⟩⟩
    have I1 : Inv X pins σ (upd H s.heap.objs.size (.tup [.int (i : Nat), x])) { s with heap := h'', toks := tk + 1 } :=
      I.turnedNew (ch := [e, it]) (fun b ob hb q => (sb.2 b (fun z => hb (by simp [z]))).trans (hk b ob (fun z => hb (by simp [z])) (fun z => hb (by simp [z])) q)) hf (Nat.le_refl _) new
    refine ⟨.ref s.heap.objs.size, _, I1, rfl, ⟨_, x, rfl, I.hok.fresh (Nat.le_refl _), rfl, fun ys hy => by rw [I.tuple_inj hy hq]; exact hx⟩, ⟨⟨u2, ?_⟩, hst.1.at fun o q => (sb.2 it (Ne.symm hne)).trans q, hne⟩, fun b hb => ?_⟩
    · have e1 : ((i + 1 : Nat) : Int) = (i : Int) + 1 := by omega
      rw [e1]; exact he'
    · have hb' : b < s.heap.objs.size := by
        have e' : b = e ∨ b = it := by simpa using hb
        rcases e' with z | z
        · rw [z]; exact hel
        · rw [z]; exact hil
      rw [upd_ne (Nat.ne_of_lt hb')]
      exact (hf b hb).1
  done := by
    intro X hP hw hK hc i pins s σ H E I hf st hg
    subst hP hw hK
    obtain ⟨⟨old, he⟩, hit, hne⟩ := st
    obtain ⟨xs, hq, hx⟩ := hg
    obtain ⟨its, rv, p, hz⟩ := I.tuple hq
    obtain ⟨f0, f1, f2, f3, f4, f5⟩ := hf it (by simp)
    have hl := rv.length
    have hTy : s.TypeIs (.ref e) "enumerate" := ⟨_, he, rfl⟩
    unfold pyNext
    refine wpAny_bind (wpAny_attempt (wpAny_callSpecial?_slot (name := Str.ofString "__next__") hTy F.slot_enumerate_next
      (wpAny_call_entry F.slot_enumerate_next hTy F.entry_enumerate_next ?_ (F.args_enumerate_next_1 _))))
    show wpAny _ _ (field (.ref e) 2 >>= _) _ _ _
    refine wpAny_bind (wpAny_field he rfl (x := .ref it) rfl ?_)
    refine wpAny_bind (wpAny_nextOf_tuple_end (A := X.A.in1) (I.ok.hd hc) hit p (by simp; omega) fun h' x he' hx' => ?_)
    obtain ⟨o, ho, hc'⟩ := hx'
    refine wpAny_bind (wpAny_isInstance (T := "StopIteration") (b := true) ⟨o, ho, hc'⟩ isSubtype_stop ?_)
    exact wpAny_pure ⟨rfl, I.turned (t' := s.toks) (fun b o hb q => he' b o (fun z => hb (by simp [z])) q) f0 f1 f3 f4 f5⟩
  self := fun A i s Q E st h => let ⟨⟨_, he⟩, _⟩ := st; wpAny_pyIter_enum he h
def iEnumT (K : PySem.W.Frag) (ta : TA) : TI := fun σ H R => ta σ H fun vs H1 => ∃ a xs, vs = [.ref a] ∧ SqT K H1 a xs ∧ R (IteT K a) H1
theorem pi_enumT {X : Cx} {e : Expr} {ta : TA} {p pos tpos : Pos} {elts : List Expr} {kk : Nat} (hg : Gl X "enumerate") (hm : X.mg "enumerate" = none) (ha : PA X [e] ta) (hs : starEach [e] X.env = [(false, eval e X.env)] := by rfl) :
    PI X (.Tuple elts kk tpos) (.Call (.Name "enumerate" p) [e] [] pos) (iEnumT X.K ta) := by
  refine ⟨fun pins s σ H R I h => ?_⟩
  refine Call_ (ld_blt I hg hm boot_enumerate (PyProof.Rows.callWith_type1 (thn (ha.run pos pins s σ H _ I h) fun us s1 ⟨vs, H1, I1, r1, q1⟩ => ?_) hs rfl))
  obtain ⟨a, xs, ex, hq, q⟩ := q1
  subst ex
  cases r1 with
  | cons r rr =>
    cases rr
    cases r
    obtain ⟨its, rv, p', hz⟩ := I1.tuple hq
    have hal : a < s1.heap.objs.size := by obtain ⟨_, q, _⟩ := p'; exact Heap.lt_size q
    refine enum_begins1 (begins_tuple a its.toArray) p' fun h' he hit hsz hk => wpAny_pyIter_enum he ?_
    have I2 : Inv X pins σ H1 { s1 with heap := h' } := I1.kept (t' := s1.toks) hk
    refine ⟨s1.heap.objs.size + 1, [s1.heap.objs.size + 1, s1.heap.objs.size], _, _, H1, rfl, I2, turn_enumT a (s1.heap.objs.size + 1) s1.heap.objs.size (Nat.ne_of_lt hal) (Nat.ne_of_gt (Nat.lt_succ_of_lt hal)), ⟨⟨.none, he⟩, ⟨_, hit, rfl, rfl⟩, Nat.succ_ne_self _⟩, fun b hb => ?_, q⟩
    have e' : b = s1.heap.objs.size + 1 ∨ b = s1.heap.objs.size := by simpa using hb
    have hle : s1.heap.objs.size ≤ b := by
      rcases e' with z | z
      · rw [z]; exact Nat.le_add_right _ _
      · rw [z]; exact Nat.le_refl _
    exact I1.fpOk hle (I1.hok.fresh hle)
end L2
namespace TD
open PySem L2
theorem walks_enumT {K : PySem.W.Frag} {G1 : Hp} {a : Addr} {xs : List V} {ds : List PyData} (h : G1 a = some (.tup xs)) (r : RpAll G1 xs ds) : Walks G1 (IteT K a) (dEnum ds) where
  go := fun G H i d s1 s2 hd => by
    obtain ⟨x, hx, rfl⟩ := dEnum_get hd
    obtain ⟨v, hv, rv⟩ := r.get hx
    refine ⟨⟨xs, v, SqT.of (s2 _ _ (s1 _ _ h)), hv⟩, fun y H' ⟨T, x', e1, hT, e2, hx'⟩ => ?_⟩
    subst e1 e2
    have := hx' xs (SqT.of (s2 _ _ (s1 _ _ h)))
    rw [hv] at this; cases this
    have g := Gr.new (.tup [.int (i : Nat), v]) s2 hT
    exact ⟨_, g, .tup upd_same (.cons (.int _) (.cons ((rv.mono s1).mono g.g) .nil))⟩
  stop := fun G H s1 s2 => ⟨xs, SqT.of (s2 _ _ (s1 _ _ h)), by unfold dEnum; rw [List.length_map, List.length_zipIdx, r.length]; exact Nat.le_refl _⟩
section
variable {X : Cx} {C : Addr} {env : DEnv} {a : Expr} {ds : List PyData} {p pos tpos : Pos} {elts : List Expr} {kk : Nat}
theorem di_enumT (T : Tp X.mg) (h : DE X C env a (.tuple ds)) (hg : Gl X "enumerate" := by rfl) (hs : starEach [a] X.env = [(false, eval a X.env)] := by rfl) : DI X C env (.Tuple elts kk tpos) (.Call (.Name "enumerate" p) [a] [] pos) (dEnum ds) := .mk fun S R q =>
  wI_of (pi_enumT hg T.enum (pa_cons (wE_pe a) pa_nil hs) hs) (h.run S _ fun v G1 H1 g1 r1 => by
    cases r1 with
    | tup e r => exact ⟨_, _, rfl, SqT.of (g1.i _ _ e), q _ G1 H1 g1 (walks_enumT e r)⟩)
end
end TD
namespace TD
open PySem L2 PyProof.Rows
section
variable {X : Cx} {C : Addr} {N ps : List Str} {sc : Scope} {env env1 env2 : DEnv} {st : Stmt} {rest body : List Stmt} {D : DEnds} {a b e tg : Expr} {d : PyData} {ds es : List PyData} {pos p p2 p3 : Pos} {i j : Int} {n : Nat} {x y : Str}
/-- pairs of places compared -/
theorem dc_leP {u v : Nat × Nat} (hu : X.A.units < cLine) (ha : DE X C env a (dP u)) (hb : DE X C env b (dP v)) (h : v.1 < u.1 ∨ (v.1 = u.1 ∧ v.2 < u.2)) : DC X C env a .LtE b false :=
  dc_of (op_leT hu) (nomark _) ha.dr hb.dr fun H x y r1 r2 Q q => by
    have e1 : dP u = .tuple ([(u.1 : Int), (u.2 : Int)].map .int) := rfl
    have e2 : dP v = .tuple ([(v.1 : Int), (v.2 : Int)].map .int) := rfl
    rw [e1] at r1
    rw [e2] at r2
    cases r1 with
    | tup h1 k1 =>
      cases r2 with
      | tup h2 k2 =>
        refine ⟨_, _, [(u.1 : Int), (u.2 : Int)], [(v.1 : Int), (v.2 : Int)], rfl, rfl, by rw [← k1.ints]; exact SqT.of h1, by rw [← k2.ints]; exact SqT.of h2, ?_⟩
        have e : Ob.lexAt (fun j => decide ([(u.1 : Int), (u.2 : Int)].getD j 0 = [(v.1 : Int), (v.2 : Int)].getD j 0)) (fun j => decide ([(u.1 : Int), (u.2 : Int)].getD j 0 ≤ [(v.1 : Int), (v.2 : Int)].getD j 0)) (decide (2 ≤ 2)) 0 2 = false := by
          show (if decide ((u.1 : Int) = v.1) = true then (if decide ((u.2 : Int) = v.2) = true then decide (2 ≤ 2) else decide ((u.2 : Int) ≤ v.2)) else decide ((u.1 : Int) ≤ v.1)) = false
          rcases h with h | ⟨h, h'⟩
          · rw [if_neg (by simp; omega)]; exact decide_eq_false (by omega)
          · rw [if_pos (by simp; omega), if_neg (by simp; omega)]; exact decide_eq_false (by omega)
        show Q (.bl (Ob.lexAt _ _ (decide (2 ≤ 2)) 0 2)) H
        rw [e]; exact q
/-- self.f = e -/
theorem ds_fld {q K dx : Addr} {k k' m : Nat} {r : List (Nat × Nat)} {fld : Str} {np : Pos} (s : Nat) (hm : env[s]? = some (.ob q K dx k m r)) (cl : Cls X.K K) (na : NoAttr X.K K fld) (he : DE X C env e d)
    (step : ∀ (G : Hp) (fs : List (Str × V)) (v : V), ObF G k m r fs → Rp G v d → ObF G k' m r (putF fld v fs) ∧ fs.length < 1000)
    (h : D.nx (env.set s (.ob q K dx k' m r))) (hx : X.N[s]? = some x := by rfl) (hv : Vis X.env.scope x := by first | exact Or.inl rfl | exact Or.inr (Or.inl rfl) | exact Or.inr (Or.inr rfl))
    (hd : (x == ("__debug__" : Str)) = false := by decide) (hcd : (x == ("__classdict__" : Str)) = false := by decide) (hs : swapsWith e (some (.Attribute (.Name x np) fld p2)) pos.line X.env = pure false := by rfl) : DS X C (.Assign [.Attribute (.Name x np) fld p2] e pos) env D := .mk fun S E q' => by
  obtain ⟨k1, k3, fs, k2, k4⟩ := S.ob hm
  have hs' : s < env.length := (List.getElem?_eq_some_iff.mp hm).1
  refine wS_of (ps_fld (pe_var hx hv hd hcd) (wE_pe e) hs) (he.run S _ fun v G1 H1 g1 r1 => ⟨_, k1, q, K, dx, fs, rfl, g1.h _ _ k2, cl, na, (step G1 fs v (k4.mono g1.g) r1).2, ?_⟩)
  have hG := g1.n q _ k3 k2 rfl
  exact q'.nx _ _ _ _ g1.g ((S.grow g1).change (e := .ob q K dx k' m r) hs' ⟨_, hm, rfl⟩ rfl k1 hG (by rw [g1.h _ _ k2]; simp) ⟨rfl, hG, _, upd_same, (step G1 fs v (k4.mono g1.g) r1).1⟩) h
/-! ### a web is made -/
def Srt (r : List (Nat × Nat)) : Prop := r.Pairwise fun u v => u.1 < v.1 ∨ (u.1 = v.1 ∧ u.2 < v.2)
def spIn (C : Addr) : Sp := fun vs H Q _ => ∃ (G : Hp) (p dx : Addr) (n : Nat) (r : List (Nat × Nat)) (rv : V), vs = [.ref p, .int n, rv] ∧ Same G H ∧ G p = none ∧ H p = some (.ins C dx []) ∧ Rp G rv (dRows r) ∧ _root_.TS.WebOk n r ∧ Srt r ∧
  ∀ G' H' rv', Gr G (del H p) G' H' → G' p = none → H' p = some (.ins C dx (wf n rv')) → Rp G' rv' (dRows r) → Q .non H'
theorem dw_make {x : Str} {k : Nat} {f : Addr} {fd : FuncData} {es : List Expr} {n : Nat} {r : List (Nat × Nat)} (M : Mk X.K C f) (F : FnOk X.prog X.w X.K X.mg X.base CX0 k f fd ["self", "places", "ties"] (spIn C)) (hr : Room (k + 1) X.A) (hm : X.mg x = some (.ref C)) (hb : Binds X.K fd ["self", "places", "ties"] [])
    (ha : DAs X C env (e :: es) [.v (dI n), .v (dRows r)]) (wo : _root_.TS.WebOk n r) (so : Srt r) (hg : Gl X x := by rfl)
    (hdb : (x == ("__debug__" : Str)) = false := by decide) (he : starEach (e :: es) X.env = (false, eval e X.env) :: starEach es X.env := by rfl) (hpl : (backTo pos (starEach es X.env)).any (·.1) = false := by rfl) :
    DW X C env (.Call (.Name x p) (e :: es) [] pos) n r := .mk fun S Q q => by
  refine wE_of (pe_make M F hr hg hm hb .nil pass0 (wA_pa _) hdb he hpl) (ha.run S _ fun vs G1 H1 g1 r1 => fun x dx hx hdx ne => ?_)
  cases r1 with
  | v r1 t1 =>
    cases t1 with
    | v r2 t2 =>
      cases t2
      cases r1
      have hxG := g1.i.free hx
      have hdG := g1.i.free hdx
      have s1 : Same H1 (upd (upd H1 dx (.own x)) x (.ins C dx [])) := (same_new hdx _).trans (same_new (by rw [upd_ne (Ne.symm ne)]; exact hx) _)
      refine ⟨G1, x, dx, n, r, _, rfl, g1.i.trans s1, hxG, upd_same, r2, wo, so, fun G' H' rv' g' h1 h2 h3 => ⟨rfl, ?_⟩⟩
      have g2 : Gr G1 H1 (upd G' x (.ins C dx (wf n rv'))) H' := ⟨g'.g.trans (same_new h1 _), fun b o z => ?_, fun b o z => ?_, fun b o z1 z2 z3 => ?_⟩
      · exact q _ _ _ (g1.trans g2) ⟨x, dx, rv', rfl, upd_same, h3.mono (same_new h1 _)⟩
      · have nb : b ≠ x := ne_of_none z hx
        refine g'.h b o ?_
        rw [del_ne nb]; exact s1 _ _ z
      · by_cases nb : b = x
        · subst nb; rw [upd_same] at z; cases z; exact h2
        · rw [upd_ne nb] at z; exact g'.i _ _ z
      · have nb : b ≠ x := ne_of_none z2 hx
        rw [upd_ne nb]
        exact g'.n b o z1 (by rw [del_ne nb]; exact s1 _ _ z2) z3
theorem mkIn {P : Program} {w : World} {K : PySem.W.Frag} {mg : Str → Option Value} {base : Heap} {x qual : Str} {st : Stmt} {f : Addr} {fd : FuncData} {N : List Str} {k : Nat} (F : Fun K x qual st f fd) (S : FnScope N ["self", "places", "ties"] (defScope st)) (hN : N.length = 5)
    (body : ∀ (cdv : Value) (A : Around) (outer : List Env) (s : Shared) (H : Hp) (E : XK), Room k (A.deeper (PyProof.Rows.envOfC qual (defScope st) s.heap.objs.size f cdv)) → ∀ (p dx : Addr) (n : Nat) (r : List (Nat × Nat)), _root_.TS.WebOk n r → Srt r →
      DB (cxOf CX0 P w K mg base N qual (defScope st) f cdv A outer s H E).nox C (defBody st) [.ob p C dx 0 n r, .v (dI n), .v (dRows r), .no, .no] { nx := fun env => ∃ a b c d, env = [.ob p C dx 2 n r, a, b, c, d], rt := fun _ _ => False }) : FnOk P w K mg base CX0 (k + 1) f fd ["self", "places", "ties"] (spIn C) := by
  refine F.ok S (fun vs H Q E h => ?_) (fun cdv A outer s H vs Q E hr h => ?_)
  · obtain ⟨G, p, dx, n, r, rv, rfl, _⟩ := h; rfl
  · obtain ⟨G, p, dx, n, r, rv, rfl, hs, hG, hH, hrv, wo, so, q⟩ := h
    have hst : L2.start N [.ref p, .int n, rv] = [some (.ref p), some (.int n), some rv, none, none] := by
      unfold L2.start
      rw [hN]; rfl
    have mu : ∀ i, Mu [.ob p C dx 0 n r, .v (dI n), .v (dRows r), .no, .no] i → i = 0 := fun i ⟨e, h1, h2⟩ => by
      match i, h1 with
      | 0, _ => rfl
      | 1, h1 => cases h1; cases h2
      | 2, h1 => cases h1; cases h2
      | 3, h1 => cases h1; cases h2
      | 4, h1 => cases h1; cases h2
      | _ + 5, h1 => cases h1
    have S0 : St C G (del H p) G H (L2.start N [.ref p, .int n, rv]) [.ob p C dx 0 n r, .v (dI n), .v (dRows r), .no, .no] := by
      rw [hst]
      refine ⟨⟨Same.refl _, fun b o z => ?_, hs, fun _ _ z _ _ => z⟩, rfl, fun i e h => ?_, fun i j a hij m1 m2 _ _ => hij ((mu i m1).trans (mu j m2).symm), fun i a m h => ?_⟩
      · by_cases nb : b = p
        · subst nb; rw [del_same] at z; cases z
        · rw [del_ne nb] at z; exact z
      · match i, h with
        | 0, h => cases h; exact ⟨rfl, hG, [], hH, rfl⟩
        | 1, h => cases h; exact ⟨_, rfl, .int _⟩
        | 2, h => cases h; exact ⟨_, rfl, hrv⟩
        | 3, h => cases h; trivial
        | 4, h => cases h; trivial
        | _ + 5, h => cases h
      · have := mu i m
        subst this
        cases h
        exact del_same
    refine ⟨_, wSs_pss _, (body cdv A outer s H E hr p dx n r wo so).run S0 _ ⟨fun G' H' σ' env' _ S' e => ?_, fun _ _ _ _ _ _ _ _ _ z => z.elim, fun _ _ _ _ _ _ z => z.elim, fun _ _ _ _ _ _ z => z.elim, fun _ _ _ _ z => z.elim⟩⟩
    obtain ⟨a, b, c, d, rfl⟩ := e
    obtain ⟨k1, k3, fs, k2, rv', rfl, k4⟩ := S'.ob (i := 0) rfl
    exact q G' H' rv' S'.gr k3 k2 k4
end
end TD
namespace TD
open PySem L2 TS
section
variable {w : World} {K : PySem.W.Frag} {mg : Str → Option Value} {base : Heap} {C : Addr} {f : Addr} {fd : FuncData}
abbrev s_init : Stmt := inClass (top 16) 0
theorem sc_init : FnScope ["self", "places", "ties", "index", "tie"] ["self", "places", "ties"] (defScope s_init) := ⟨rfl, rfl, rfl, by decide +kernel, rfl, by decide +kernel, by decide +kernel⟩
theorem srt_lt {r : List (Nat × Nat)} (h : Srt r) {i : Nat} {u v : Nat × Nat} (hu : r[i]? = some u) (hv : r[i + 1]? = some v) : u.1 < v.1 ∨ (u.1 = v.1 ∧ u.2 < v.2) := by
  obtain ⟨h1, e1⟩ := List.getElem?_eq_some_iff.mp hu
  obtain ⟨h2, e2⟩ := List.getElem?_eq_some_iff.mp hv
  have := List.pairwise_iff_getElem.mp h i (i + 1) h1 h2 (by omega)
  rw [e1, e2] at this
  exact this
theorem ok_init (T : Tp mg) (W : Wb K C) {tk tk2 : Tok} (gM : mg "MOST_PLACES" = some (.int 6 tk)) (gM2 : mg "MOST_TIES" = some (.int 10 tk2)) (gI : DFn PP w K mg base C "is_from" 1 R_is_from) (gT : DFn PP w K mg base C "is_tie" 2 R_is_tie) (F : Fun K "__init__" "Web.__init__" s_init f fd) : FnOk PP w K mg base CX0 3 f fd ["self", "places", "ties"] (spIn C) :=
  mkIn F sc_init rfl fun cdv A outer s H E hr p dx n r wo so => by
    have nd := sc_init.nd
    have h6 := wo.le
    have h10 := wo.len
    have hpos := wo.pos
    have hu := hr.units0
    refine db_cons (ds_if (dt_not (dt_val (de_call gI (hr.mono (by decide)) (das_v (de_name 1) (das_v de_int (das_v (de_globI gM) das_nil))) ⟨n, 1, 6, rfl, rfl⟩))) (fun k => ?_) (fun _ => ?_))
    · exfalso; simp at k; omega
    refine db_nil (db_cons (ds_if (k := false) ?_ (fun k => nomatch k) (fun _ => ?_)))
    · refine DPW.dt (dw_or (k := false) (k' := false) (dt_not (dt_val (de_isi T (de_name (d := dRows r) 2) T.tuple boot_tuple_ rfl))) (dw_or1 ((dt_cmp (dc_gt (de_len T (de_name (d := dRows r) 2).dq) (de_globI gM2))).cast (decide_eq_false ?_))))
      rw [List.length_map]; omega
    refine db_nil (db_cons (ds_for (fun i env => ∃ x y, env = [.ob p C dx 0 n r, .v (dI n), .v (dRows r), x, y]) PassesOwn.never rfl (di_enumT T (de_name (d := dRows r) 2)) ⟨_, _, rfl⟩ ?_ ?_))
    · rintro i d env1 hd ⟨x, y, rfl⟩
      obtain ⟨x', hx', rfl⟩ := dEnum_get hd
      obtain ⟨t, ht, rfl⟩ := map_get hx'
      have hlt := wo.lt t (List.mem_of_getElem? ht)
      refine ⟨_, _, dg_tup rfl (dgs_cons (dg_name 3 nd) (dgs_cons (dg_name 4 nd) dgs_nil)), ?_⟩
      refine db_cons (ds_if (k := false) ?_ (fun k => nomatch k) (fun _ => db_nil (db_nil ⟨.v (dI i), .v (dP t), rfl⟩)))
      refine DPW.dt (dw_or (k := false) (k' := false) (dt_not (k := true) (dt_val (k := true) (de_call gT hr (das_v (de_name 1) (das_v (de_name 4) das_nil)) ⟨n, t, rfl, hlt.1, hlt.2, rfl⟩))) (dw_or1 (DPW.dt ?_)))
      by_cases h0 : i = 0
      · exact dw_andF ((dt_cmp (dc_gt (de_name 3) de_int)).cast (decide_eq_false (by omega)))
      · obtain ⟨i', rfl⟩ : ∃ i', i = i' + 1 := ⟨i - 1, by omega⟩
        have hi : i' < r.length := by have := (List.getElem?_eq_some_iff.mp ht).1; omega
        have hu' : r[i']? = some r[i'] := List.getElem?_eq_getElem hi
        have hs := srt_lt so hu' ht
        refine dw_and' ((dt_cmp (dc_gt (de_name 3) de_int)).cast (decide_eq_true (by omega))) (dw_and1 (dt_cmp (dc_leP hu (de_name 4) (de_ixT (d := dP r[i']) (de_name (d := dRows r) 2) ((de_sub (de_name 3) de_int).cast (?_ : _ = dI i')) (atI_nat (by rw [List.getElem?_map, hu']; rfl))) hs)))
        show PyData.int _ = PyData.int _
        congr 1; omega
    · rintro env1 ⟨x, y, rfl⟩
      refine db_cons (ds_fld (k' := 1) 0 rfl W.cl W.nM (de_name (d := dI n) 1) (fun G fs v h1 h2 => ?_) ?_)
      · have h1 : fs = [] := h1
        subst h1
        cases h2
        exact ⟨rfl, by show 0 < 1000; decide⟩
      · refine db_cons (ds_fld (k' := 2) 0 rfl W.cl W.nR (de_name (d := dRows r) 2) (fun G fs v h1 h2 => ?_) (db_nil ⟨_, _, _, _, rfl⟩))
        have h1 : fs = putF "many" (.int n) [] := h1
        subst h1
        exact ⟨⟨v, rfl, h2⟩, by show 1 < 1000; decide⟩
end
end TD
namespace TD
open PySem L2 PyProof.Rows
/-! ### the row of draws: a list of one's own that a call changes -/
def RowD (ds : List PyData) : Prop := ∃ (ns : List Int) (p w q : Int), ds = [.list (ns.map .int), .int p, .int w, .int q] ∧ 0 ≤ p
section
variable {C : Addr} {G0 H0 G H G' H' : Hp} {σ : L2.St} {env : DEnv}
/-- without the row -/
theorem St.drop (S : St C G0 H0 G H σ env) {i : Nat} {a : Addr} {ds : List PyData} (h : env[i]? = some (.ml a ds)) : St C G0 H0 G (del H a) σ (env.set i .no) := by
  obtain ⟨xs, h1, h2, h3, h4⟩ := S.ml h
  have hi : i < env.length := (List.getElem?_eq_some_iff.mp h).1
  have H0a := S.fr i a ⟨_, h, rfl⟩ h1
  have notMu : ∀ {j}, Mu (env.set i .no) j → j ≠ i ∧ Mu env j := fun {j} ⟨u, q1, q2⟩ => by
    by_cases hj : i = j
    · subst hj; rw [set_get hi] at q1; cases q1; cases q2
    · rw [set_get' hj] at q1; exact ⟨fun z => hj z.symm, u, q1, q2⟩
  have ne : ∀ {j b u}, i ≠ j → env[j]? = some u → u.isMu = true → σ[j]? = some (some (.ref b)) → b ≠ a := fun {j b u} hj q1 q2 q3 z => S.ds i j a hj ⟨_, h, rfl⟩ ⟨u, q1, q2⟩ h1 (by rw [q3, z])
  refine ⟨⟨S.gr.g, fun b u q => by rw [del_ne (ne_of_none q H0a)]; exact S.gr.h b u q, fun b u q => by rw [del_ne (ne_of_none q h3)]; exact S.gr.i b u q, S.gr.n⟩, by rw [List.length_set, S.len], fun j u q => ?_, fun j k b hjk m1 m2 => S.ds j k b hjk (notMu m1).2 (notMu m2).2, fun j b m1 => S.fr j b (notMu m1).2⟩
  by_cases hj : i = j
  · subst hj; rw [set_get hi] at q; cases q; trivial
  · rw [set_get' hj] at q
    have ok := S.sl j u q
    cases u with
    | no => trivial
    | v d => exact ok
    | web n r => exact ok
    | fz ns => exact ok
    | mu ds' => obtain ⟨b, ys, q1, q2, q3, q4⟩ := ok; exact ⟨b, ys, q1, by rw [del_ne (ne hj q rfl q1)]; exact q2, q3, q4⟩
    | di ds' => obtain ⟨b, ys, q1, q2, q3, q4⟩ := ok; exact ⟨b, ys, q1, by rw [del_ne (ne hj q rfl q1)]; exact q2, q3, q4⟩
    | ob p K dx k n r => obtain ⟨q1, q3, fs, q2, q4⟩ := ok; exact ⟨q1, q3, fs, by rw [del_ne (ne hj q rfl q1)]; exact q2, q4⟩
    | ml b ds' => obtain ⟨ys, q1, q2, q3, q4⟩ := ok; exact ⟨ys, q1, by rw [del_ne (ne hj q rfl q1)]; exact q2, q3, q4⟩
/-- a call has changed the row -/
theorem St.row (S : St C G0 H0 G H σ env) {i : Nat} {a : Addr} {ds ds' : List PyData} {xs' : List V} (h : env[i]? = some (.ml a ds)) (g : Gr G (del H a) G' H') (hG : G' a = none) (hH : H' a = some (.lst xs')) (r : RpAll G' xs' ds') :
    St C G0 H0 G' H' σ (env.set i (.ml a ds')) := by
  obtain ⟨xs, h1, h2, h3, h4⟩ := S.ml h
  have hi : i < env.length := (List.getElem?_eq_some_iff.mp h).1
  have H0a := S.fr i a ⟨_, h, rfl⟩ h1
  have S1 := (S.drop h).grow g
  have muo : ∀ {j}, j ≠ i → Mu (env.set i (.ml a ds')) j → Mu env j ∧ Mu (env.set i .no) j := fun {j} hj ⟨u, q1, q2⟩ => by
    rw [set_get' (Ne.symm hj)] at q1; exact ⟨⟨u, q1, q2⟩, u, by rw [set_get' (Ne.symm hj)]; exact q1, q2⟩
  refine ⟨S1.gr, by rw [List.length_set, S.len], fun j u q => ?_, fun j k b hjk m1 m2 e1 e2 => ?_, fun j b m1 e1 => ?_⟩
  · by_cases hj : i = j
    · subst hj; rw [set_get hi] at q; cases q; exact ⟨xs', h1, hH, hG, r⟩
    · rw [set_get' hj] at q
      exact S1.sl j u (by rw [set_get' hj]; exact q)
  · have old : ∀ {j}, Mu (env.set i (.ml a ds')) j → Mu env j := fun {j} m => by
      by_cases hj : j = i
      · subst hj; exact ⟨_, h, rfl⟩
      · exact (muo hj m).1
    exact S.ds j k b hjk (old m1) (old m2) e1 e2
  · by_cases hj : j = i
    · subst hj; rw [h1] at e1; cases e1; exact H0a
    · exact S.fr j b (muo hj m1).1 e1
end
/-- an expression that may change the row in slot i -/
structure DER (X : Cx) (C : Addr) (env : DEnv) (i : Nat) (a : Addr) (e : Expr) (P : PyData → Prop) : Prop where
  run : ∀ {G0 H0 G H : Hp} {σ : L2.St} {ds : List PyData}, St C G0 H0 G H σ (env.set i (.ml a ds)) → RowD ds → ∀ Q : VK,
    (∀ v G' H' ds' d, RowD ds' → P d → St C G0 H0 G' H' σ (env.set i (.ml a ds')) → Same G G' → Rp G' v d → Q v H') → wE X e σ H Q
def spRw (C : Addr) (A : List Sl → Prop) (P : List Sl → PyData → Prop) : Sp := fun vs H Q _ => ∃ (G : Hp) (a : Addr) (xs : List V) (ds : List PyData) (vs' : List V) (sl : List Sl), vs = .ref a :: vs' ∧ Same G H ∧ H a = some (.lst xs) ∧ G a = none ∧ RpAll G xs ds ∧ RowD ds ∧ ArgsOk C G vs' sl ∧ A sl ∧
  ∀ G' H' xs' ds' v d, Gr G (del H a) G' H' → G' a = none → H' a = some (.lst xs') → RpAll G' xs' ds' → RowD ds' → P sl d → Rp G' v d → Q v H'
structure DFnR (P : Program) (w : World) (K : PySem.W.Frag) (mg : Str → Option Value) (base : Heap) (C : Addr) (x : Str) (k : Nat) (A : List Sl → Prop) (R : List Sl → PyData → Prop) : Prop where
  ex : ∃ f fd ps, FnOk P w K mg base CX0 k f fd ps (spRw C A R) ∧ mg x = some (.ref f) ∧ PySem.W.keepIn K (.ref f) = true ∧ Binds K fd ps []
section
variable {X : Cx} {C : Addr} {N ps : List Str} {sc : Scope} {env env1 env2 : DEnv} {st : Stmt} {rest body : List Stmt} {D : DEnds} {a b e tg : Expr} {d : PyData} {ds es : List PyData} {pos p p2 p3 : Pos} {n : Nat} {x y : Str} {l : Addr} {s : Nat}
theorem DE.er (h : ∀ ds, DE X C (env.set s (.ml l ds)) e d) : DER X C env s l e (fun d' => d' = d) := .mk fun S R Q q => (h _).run S Q fun v G' H' g r => q v G' H' _ d R rfl (S.grow g) g.g r
theorem DER.imp {P P' : PyData → Prop} (h : DER X C env s l e P) (k : ∀ d, P d → P' d) : DER X C env s l e P' := .mk fun S R Q q => h.run S R Q fun v G' H' ds' d r1 r2 => q v G' H' ds' d r1 (k d r2)
/-- the row's own name -/
theorem row_name {G0 H0 G H : Hp} {σ : L2.St} (S : St C G0 H0 G H σ env) (hm : env[s]? = some (.ml l ds)) (hN : X.N[s]? = some x) (hv : Vis X.env.scope x) (hd : (x == ("__debug__" : Str)) = false) (hcd : (x == ("__classdict__" : Str)) = false) (Q : VK) (q : Q (.ref l) H) : wE X (.Name x p) σ H Q := by
  obtain ⟨xs, k1, _⟩ := S.ml hm
  exact wE_of (pe_var hN hv hd hcd) ⟨_, k1, q⟩
theorem dl_nameA (s : Nat) (he : env[s]? = some (.ml l ds)) (hN : X.N[s]? = some x := by rfl) (hv : Vis X.env.scope x := by first | exact Or.inl rfl | exact Or.inr (Or.inl rfl) | exact Or.inr (Or.inr rfl))
    (hd : (x == ("__debug__" : Str)) = false := by decide) (hcd : (x == ("__classdict__" : Str)) = false := by decide) : DL X C env (.Name x p) ds := .mk fun S Q q => by
  obtain ⟨xs, k1, k2, k3, k4⟩ := S.ml he
  exact wE_of (pe_var hN hv hd hcd) ⟨_, k1, q l xs _ _ S.refl k2 k4⟩
theorem ds_setIA {i : Expr} {j : Nat} {np spos : Pos} (s : Nat) (hm : env[s]? = some (.ml l ds)) (he : DE X C env e d) (hi : DE X C env i (dI j)) (hj : j < ds.length) (h : D.nx (env.set s (.ml l (ds.set j d)))) (hx : X.N[s]? = some x := by rfl) (hv : Vis X.env.scope x := by first | exact Or.inl rfl | exact Or.inr (Or.inl rfl) | exact Or.inr (Or.inr rfl))
    (hd : (x == ("__debug__" : Str)) = false := by decide) (hcd : (x == ("__classdict__" : Str)) = false := by decide) (ha : ∀ v, assign (.Subscript (.Name x np) i spos) X.env v = (do
      let ov ← holding [v] (eval (.Name x np) X.env)
      let iv ← holding [v, ov] (eval i X.env)
      standAt spos
      holding [v, ov, iv] (setItem ov iv v)
      release [v, ov, iv] []) := by intro _; rfl)
    (hs : swapsWithSole [.Subscript (.Name x np) i spos] e pos.line X.env = pure false := by rfl) (hw : swappedStores [.Subscript (.Name x np) i spos] e X.env = pure none := by rfl) (h1 : (assignEach [.Subscript (.Name x np) i spos] X.env).map (·.2) = [assign (.Subscript (.Name x np) i spos) X.env] := by rfl) :
    DS X C (.Assign [.Subscript (.Name x np) i spos] e pos) env D := .mk fun S E q => by
  obtain ⟨xs, k1, k2, k3, k4⟩ := S.ml hm
  have hs' : s < env.length := (List.getElem?_eq_some_iff.mp hm).1
  refine wS_of (ps_asg (wE_pe e) (pg_sub (pe_var hx hv hd hcd) (wE_pe i) set_list ha) hs hw h1) (he.run S _ fun v G1 H1 g1 r1 => ⟨_, k1, hi.run (S.grow g1) _ fun w G2 H2 g2 r2 => ?_⟩)
  cases r2
  have g := g1.trans g2
  have hG := g.n l _ k3 k2 rfl
  refine ⟨l, xs, (j : Int), j, rfl, rfl, g.h _ _ k2, ixN_nat (by rw [k4.length]; exact hj), ?_⟩
  exact q.nx _ _ _ _ g.g ((S.grow g).change (e := .ml l _) hs' ⟨_, hm, rfl⟩ rfl k1 hG (by rw [g.h _ _ k2]; simp) ⟨_, rfl, upd_same, hG, (k4.mono g.g).set (r1.mono g2.g) j⟩) h
/-- f(row, e, ..), the others change nothing -/
theorem der_call {A : List Sl → Prop} {R : List Sl → PyData → Prop} {f : Str} {k : Nat} {sl : List Sl} {es : List Expr} {rp : Pos} (F : DFnR X.prog X.w X.K X.mg X.base C f k A R) (hr : Room k X.A) (hsl : s < env.length) (ha : ∀ ds, DAs X C (env.set s (.ml l ds)) es sl) (hA : A sl)
    (hN : X.N[s]? = some x := by rfl) (hv : Vis X.env.scope x := by first | exact Or.inl rfl | exact Or.inr (Or.inl rfl) | exact Or.inr (Or.inr rfl)) (hd : (x == ("__debug__" : Str)) = false := by decide) (hcd : (x == ("__classdict__" : Str)) = false := by decide)
    (hg : Gl X f := by rfl) (hdb : (f == ("__debug__" : Str)) = false := by decide) (he : starEach (.Name x rp :: es) X.env = (false, eval (.Name x rp) X.env) :: starEach es X.env := by rfl) (hpl : (backTo pos (starEach es X.env)).any (·.1) = false := by rfl) :
    DER X C env s l (.Call (.Name f p) (.Name x rp :: es) [] pos) (R sl) := .mk fun {G0 H0 G H σ ds} S RD Q q => by
  obtain ⟨g, fd, ps, F, hm, hk, hb⟩ := F.ex
  have hget : (env.set s (.ml l ds))[s]? = some (.ml l ds) := set_get hsl
  refine wE_of (pe_call F hr hg hm hk hb .nil pass0 (pa_cons (wE_pe _) (wA_pa es) he) hdb he hpl) (row_name S hget hN hv hd hcd _ ((ha ds).run S _ fun vs G1 H1 g1 r1 => ?_))
  have S1 := S.grow g1
  obtain ⟨xs, k1, k2, k3, k4⟩ := S1.ml hget
  refine ⟨G1, l, xs, ds, vs, sl, by rw [List.append_nil], g1.i, k2, k3, k4, RD, r1, hA, fun G' H' xs' ds' v d g2 h1 h2 h3 h4 h5 h6 => ?_⟩
  have S2 := S1.row hget g2 h1 h2 h3
  rw [List.set_set] at S2
  exact q v G' H' ds' d h4 h5 S2 (g1.g.trans g2.g) h6
/-- f(row, e1, e2), e1 changes the row -/
theorem der_callR {A : List Sl → Prop} {R : List Sl → PyData → Prop} {f : Str} {k : Nat} {P1 : PyData → Prop} {d2 : PyData} {e1 e2 : Expr} {rp : Pos} (F : DFnR X.prog X.w X.K X.mg X.base C f k A R) (hr : Room k X.A) (hsl : s < env.length) (h1 : DER X C env s l e1 P1) (h2 : ∀ ds, DE X C (env.set s (.ml l ds)) e2 d2) (hA : ∀ d, P1 d → A [.v d, .v d2])
    (hN : X.N[s]? = some x := by rfl) (hv : Vis X.env.scope x := by first | exact Or.inl rfl | exact Or.inr (Or.inl rfl) | exact Or.inr (Or.inr rfl)) (hd : (x == ("__debug__" : Str)) = false := by decide) (hcd : (x == ("__classdict__" : Str)) = false := by decide)
    (hg : Gl X f := by rfl) (hdb : (f == ("__debug__" : Str)) = false := by decide) (he : starEach [.Name x rp, e1, e2] X.env = (false, eval (.Name x rp) X.env) :: starEach [e1, e2] X.env := by rfl) (he1 : starEach [e1, e2] X.env = (false, eval e1 X.env) :: starEach [e2] X.env := by rfl) (he2 : starEach [e2] X.env = (false, eval e2 X.env) :: starEach [] X.env := by rfl)
    (hpl : (backTo pos (starEach [e1, e2] X.env)).any (·.1) = false := by rfl) :
    DER X C env s l (.Call (.Name f p) [.Name x rp, e1, e2] [] pos) (fun d => ∃ d1, P1 d1 ∧ R [.v d1, .v d2] d) := .mk fun {G0 H0 G H σ ds} S RD Q q => by
  obtain ⟨g, fd, ps, F, hm, hk, hb⟩ := F.ex
  have hget : ∀ ds, (env.set s (.ml l ds))[s]? = some (.ml l ds) := fun ds => set_get hsl
  refine wE_of (pe_call F hr hg hm hk hb .nil pass0 (pa_cons (wE_pe _) (pa_cons (wE_pe e1) (pa_cons (wE_pe e2) pa_nil he2) he1) he) hdb he hpl) (row_name S (hget ds) hN hv hd hcd _ (h1.run S RD _ fun v1 G1 H1 ds1 d1 R1 p1 S1 g1 r1 => (h2 ds1).run S1 _ fun v2 G2 H2 g2 r2 => ?_))
  have S2 := S1.grow g2
  obtain ⟨xs, k1, k2, k3, k4⟩ := S2.ml (hget ds1)
  refine ⟨G2, l, xs, ds1, [v1, v2], [.v d1, .v d2], rfl, g2.i, k2, k3, k4, R1, .v (r1.mono g2.g) (.v r2 .nil), hA d1 p1, fun G' H' xs' ds' v d g3 q1 q2 q3 q4 q5 q6 => ?_⟩
  have S3 := S2.row (hget ds1) g3 q1 q2 q3
  rw [List.set_set] at S3
  exact q v G' H' ds' d q4 ⟨d1, p1, q5⟩ S3 (g1.trans (g2.g.trans g3.g)) q6
end
end TD
namespace TD
open PySem L2 PyProof.Rows
theorem St.add {C : Addr} {G0 H0 G H : Hp} {σ : L2.St} {env : DEnv} {a : Addr} {i : Nat} {xs : List V} {ds : List PyData} (S : St C G0 H0 G (del H a) σ env) (h : env[i]? = some .no) (hs : σ[i]? = some (some (.ref a))) (hH : H a = some (.lst xs)) (hG : G a = none) (h0 : H0 a = none) (r : RpAll G xs ds) : St C G0 H0 G H σ (env.set i (.ml a ds)) := by
  have hi : i < env.length := (List.getElem?_eq_some_iff.mp h).1
  have e : H = upd (del H a) a (.lst xs) := (del_upd hH).symm
  have S1 : St C G0 H0 G H σ (env.set i (.ml a ds)) := by
    have nm : NoMu σ env a := S.noMu del_same
    have sm : Same (del H a) H := fun b o z => by
      by_cases q : b = a
      · subst q; rw [del_same] at z; cases z
      · rw [del_ne q] at z; exact z
    have old : ∀ {j}, Mu (env.set i (.ml a ds)) j → j = i ∨ (j ≠ i ∧ Mu env j) := fun {j} ⟨u, q1, q2⟩ => by
      by_cases hj : j = i
      · exact .inl hj
      · rw [set_get' (Ne.symm hj)] at q1; exact .inr ⟨hj, u, q1, q2⟩
    refine ⟨⟨S.gr.g, fun b o z => sm _ _ (S.gr.h b o z), fun b o z => sm _ _ (S.gr.i b o z), S.gr.n⟩, by rw [List.length_set, S.len], fun j u q => ?_, fun j k b hjk m1 m2 e1 e2 => ?_, fun j b m1 e1 => ?_⟩
    · by_cases hj : i = j
      · subst hj; rw [set_get hi] at q; cases q; exact ⟨xs, hs, hH, hG, r⟩
      · rw [set_get' hj] at q
        have ok := S.sl j u q
        cases u with
        | no => trivial
        | v d => exact ok
        | web n r => exact ok
        | fz ns => exact ok
        | mu ds' => obtain ⟨b, ys, q1, q2, q3⟩ := ok; exact ⟨b, ys, q1, sm _ _ q2, q3⟩
        | di ds' => obtain ⟨b, ys, q1, q2, q3⟩ := ok; exact ⟨b, ys, q1, sm _ _ q2, q3⟩
        | ob p K dx k n r => obtain ⟨q1, q3, fs, q2, q4⟩ := ok; exact ⟨q1, q3, fs, sm _ _ q2, q4⟩
        | ml b ds' => obtain ⟨ys, q1, q2, q3⟩ := ok; exact ⟨ys, q1, sm _ _ q2, q3⟩
    · rcases old m1 with z1 | ⟨z1, n1⟩ <;> rcases old m2 with z2 | ⟨z2, n2⟩
      · exact hjk (z1.trans z2.symm)
      · rw [z1, hs] at e1; cases e1; exact nm _ n2 e2
      · rw [z2, hs] at e2; cases e2; exact nm _ n1 e1
      · exact S.ds j k b hjk n1 n2 e1 e2
    · rcases old m1 with z1 | ⟨z1, m1⟩
      · subst z1; rw [hs] at e1; cases e1; exact h0
      · exact S.fr j b m1 e1
  exact S1
theorem mkFnR {C : Addr} {P : Program} {w : World} {K : PySem.W.Frag} {mg : Str → Option Value} {base : Heap} {x qual : Str} {st : Stmt} {f : Addr} {fd : FuncData} {N ps : List Str} {k : Nat} {A : List Sl → Prop} {R : List Sl → PyData → Prop} (F : Fun K x qual st f fd) (S : FnScope N ps (defScope st)) (len : ∀ sl, A sl → sl.length + 1 = ps.length)
    (body : ∀ (cdv : Value) (Ar : Around) (outer : List Env) (s : Shared) (H : Hp) (E : XK), Room k (Ar.deeper (PyProof.Rows.envOfC qual (defScope st) s.heap.objs.size f cdv)) → ∀ (l : Addr) (ds : List PyData) (sl : List Sl), RowD ds → A sl →
      DB (cxOf CX0 P w K mg base N qual (defScope st) f cdv Ar outer s H E).nox C (defBody st) ((startD N (.no :: sl)).set 0 (.ml l ds)) { nx := fun _ => False, rt := fun d env => R sl d ∧ ∃ ds', env[0]? = some (.ml l ds') ∧ RowD ds' }) : FnOk P w K mg base CX0 (k + 1) f fd ps (spRw C A R) := by
  refine F.ok S (fun vs H Q E h => ?_) (fun cdv Ar outer s H vs Q E hr h => ?_)
  · obtain ⟨G, a, xs, ds, vs', sl, rfl, _, _, _, _, _, ha, hA, _⟩ := h
    rw [List.length_cons, args_len ha]; exact len sl hA
  · obtain ⟨G, a, xs, ds, vs', sl, rfl, hs, hH, hG, hr1, RD, ha, hA, q⟩ := h
    have s1 : Same G (del H a) := fun b o z => by rw [del_ne (ne_of_none z hG)]; exact hs b o z
    have S0 := st_start (C := C) (N := N) (vs := .ref a :: vs') s1 (.n ha)
    have S1 := S0.add (i := 0) rfl rfl hH hG del_same hr1
    refine ⟨_, wSs_pss _, (body cdv Ar outer s H E hr a ds sl RD hA).run S1 _ ⟨fun _ _ _ _ _ _ z => z.elim, fun G' H' σ' env' v d _ S' r ⟨hR, ds', he, RD'⟩ => ?_, fun _ _ _ _ _ _ z => z.elim, fun _ _ _ _ _ _ z => z.elim, fun _ _ _ _ z => z.elim⟩⟩
    obtain ⟨xs', _, k2, k3, k4⟩ := S'.ml he
    exact q G' H' xs' ds' v d S'.gr k3 k2 k4 RD' hR r
section
variable {X : Cx} {C : Addr} {N ps : List Str} {sc : Scope} {env env1 env2 : DEnv} {st : Stmt} {rest body : List Stmt} {D : DEnds} {a b e tg : Expr} {d : PyData} {ds es : List PyData} {pos p p2 p3 : Pos} {n : Nat} {x y : Str} {l : Addr} {s : Nat} {P P1 P2 : PyData → Prop}
theorem set_eq {h : env[s]? = some (.ml l ds)} : env.set s (.ml l ds) = env := by
  obtain ⟨h1, h2⟩ := List.getElem?_eq_some_iff.mp h
  rw [← h2]; exact List.set_getElem_self h1
theorem St.set (S : St C G0 H0 G H σ env) (h : env[s]? = some (.ml l ds)) : St C G0 H0 G H σ (env.set s (.ml l ds)) := by rw [set_eq (h := h)]; exact S
/-! statements -/
theorem ds_setR {t : Nat} (hm : env[s]? = some (.ml l ds)) (RD : RowD ds) (he : DER X C env s l e P) (h : ∀ d ds', P d → RowD ds' → D.nx ((env.set s (.ml l ds')).set t (.v d))) (hN : X.N.Nodup) (hi : t < env.length := by exact Nat.le_of_ble_eq_true rfl) (hx : X.N[t]? = some x := by rfl) (hl : Loc X.env.scope x := by first | exact Or.inl rfl | exact Or.inr rfl)
    (hs : swapsWith e (some (.Name x p2)) pos.line X.env = pure false := by rfl) (hf : X.fn x = true ∨ X.env.scope.names.lookup x = some .local := by first | exact .inl rfl | exact .inr rfl) : DS X C (.Assign [.Name x p2] e pos) env D := .mk fun S E q =>
  wS_of (ps_set hN hx hl (wE_pe e) hs hf) (he.run (S.set hm) RD _ fun v G' H' ds' d r1 r2 S' sm r => q.nx _ _ _ _ sm (S'.put (e := .v d) (by rw [List.length_set]; exact hi) rfl ⟨v, rfl, r⟩) (h d ds' r2 r1))
theorem ds_retR (hm : env[s]? = some (.ml l ds)) (RD : RowD ds) (he : DER X C env s l e P) (h : ∀ d ds', P d → RowD ds' → D.rt d (env.set s (.ml l ds'))) : DS X C (.Return (some e) pos) env D := .mk fun S E q =>
  wS_of (ps_ret (wE_pe e)) (he.run (S.set hm) RD _ fun v G' H' ds' d r1 r2 S' sm r => q.rt _ _ _ _ v d sm S' r (h d ds' r2 r1))
/-- a, b = e1, e2, both may change the row -/
theorem ds_parRR {px py pt : Pos} {kt k2 : Nat} {pt2 : Pos} (t u : Nat) (hm : env[s]? = some (.ml l ds)) (RD : RowD ds) (ha : DER X C env s l a P1) (hb : DER X C env s l b P2) (h : ∀ d d' ds', P1 d → P2 d' → RowD ds' → D.nx (((env.set s (.ml l ds')).set t (.v d)).set u (.v d'))) (hc : X.calm = true) (hN : X.N.Nodup) (hi : t < env.length := by exact Nat.le_of_ble_eq_true rfl) (hj : u < env.length := by exact Nat.le_of_ble_eq_true rfl) (hij : t ≠ u := by decide)
    (hx : X.N[t]? = some x := by rfl) (hy : X.N[u]? = some y := by rfl) (hlx : X.env.scope.names.lookup x = some .local := by rfl) (hly : X.env.scope.names.lookup y = some .local := by rfl)
    (hw : swappedStores [.Tuple [.Name x px, .Name y py] kt pt] (.Tuple [a, b] k2 pt2) X.env = pure (some [x, y]) := by rfl) (hs : swapsWithSole [.Tuple [.Name x px, .Name y py] kt pt] (.Tuple [a, b] k2 pt2) pos.line X.env = pure false := by rfl)
    (he : starEach [a, b] X.env = (false, eval a X.env) :: starEach [b] X.env := by rfl) (he2 : starEach [b] X.env = (false, eval b X.env) :: starEach [] X.env := by rfl) :
    DS X C (.Assign [.Tuple [.Name x px, .Name y py] kt pt] (.Tuple [a, b] k2 pt2) pos) env D := .mk fun S E q =>
  wS_of (ps_par hc hN hx hy hij hlx hly (pa_cons (wE_pe a) (pa_cons (wE_pe b) pa_nil he2) he) hw hs)
    (ha.run (S.set hm) RD _ fun v G1 H1 ds1 d1 R1 p1 S1 sm1 r1 => hb.run S1 R1 _ fun w G2 H2 ds2 d2 R2 p2 S2 sm2 r2 => ⟨v, w, rfl, q.nx _ _ _ _ (sm1.trans sm2)
      ((S2.put (e := .v d1) (by rw [List.length_set]; exact hi) rfl ⟨v, rfl, r1.mono sm2⟩).put (e := .v d2) (by rw [List.length_set, List.length_set]; exact hj) rfl ⟨w, rfl, r2⟩) (h d1 d2 ds2 p1 p2 R2)⟩)
/-! expressions -/
theorem der_add {i : Int} {P' : Int → Prop} (ha : ∀ ds, DE X C (env.set s (.ml l ds)) a (.int i)) (hb : DER X C env s l b (fun d => ∃ k, d = .int k ∧ P' k)) : DER X C env s l (.BinOp a .Add b pos) (fun d => ∃ k, d = .int (i + k) ∧ P' k) := .mk fun S R Q q =>
  wE_of (pe_op op_add (wE_pe a) (wE_pe b)) ((ha _).run S _ fun v G1 H1 g1 r1 => hb.run (S.grow g1) R _ fun w G2 H2 ds2 d2 R2 p2 S2 sm2 r2 => by
    obtain ⟨k, rfl, pk⟩ := p2
    cases r1; cases r2
    exact ⟨_, _, rfl, rfl, q _ _ _ _ _ R2 ⟨k, rfl, pk⟩ S2 (g1.g.trans sm2) (.int _)⟩)
/-- xs[e] -/
theorem der_ix {xs : List PyData} (ha : ∀ ds, DE X C (env.set s (.ml l ds)) a (.list xs)) (hb : DER X C env s l b (fun d => ∃ j : Nat, d = dI j ∧ j < xs.length)) (hs : PlainIx b := by intro _ _; rfl) : DER X C env s l (.Subscript a b pos) (fun d => d ∈ xs) := .mk fun S R Q q =>
  wE_of (pe_ix ix_list (wE_pe a) (wE_pe b) hs) ((ha _).run S _ fun v G1 H1 g1 r1 => hb.run (S.grow g1) R _ fun w G2 H2 ds2 d2 R2 p2 S2 sm2 r2 => by
    obtain ⟨j, rfl, hj⟩ := p2
    cases r2
    cases r1 with
    | lst k1 k2 =>
      obtain ⟨u, hu, ru⟩ := k2.get (List.getElem?_eq_getElem hj)
      exact ⟨_, _, _, u, rfl, rfl, SqL.of (S2.same _ _ (sm2 _ _ k1)), atI_nat hu, q _ _ _ _ _ R2 (List.getElem_mem hj) S2 (g1.g.trans sm2) (ru.mono sm2)⟩)
/-- f(row, e), e changes the row -/
theorem der_callR1 {A : List Sl → Prop} {R : List Sl → PyData → Prop} {f : Str} {k : Nat} {e1 : Expr} {rp : Pos} (F : DFnR X.prog X.w X.K X.mg X.base C f k A R) (hr : Room k X.A) (hsl : s < env.length) (h1 : DER X C env s l e1 P1) (hA : ∀ d, P1 d → A [.v d])
    (hN : X.N[s]? = some x := by rfl) (hv : Vis X.env.scope x := by first | exact Or.inl rfl | exact Or.inr (Or.inl rfl) | exact Or.inr (Or.inr rfl)) (hd : (x == ("__debug__" : Str)) = false := by decide) (hcd : (x == ("__classdict__" : Str)) = false := by decide)
    (hg : Gl X f := by rfl) (hdb : (f == ("__debug__" : Str)) = false := by decide) (he : starEach [.Name x rp, e1] X.env = (false, eval (.Name x rp) X.env) :: starEach [e1] X.env := by rfl) (he1 : starEach [e1] X.env = (false, eval e1 X.env) :: starEach [] X.env := by rfl)
    (hpl : (backTo pos (starEach [e1] X.env)).any (·.1) = false := by rfl) :
    DER X C env s l (.Call (.Name f p) [.Name x rp, e1] [] pos) (fun d => ∃ d1, P1 d1 ∧ R [.v d1] d) := .mk fun {G0 H0 G H σ ds} S RD Q q => by
  obtain ⟨g, fd, ps, F, hm, hk, hb⟩ := F.ex
  have hget : ∀ ds, (env.set s (.ml l ds))[s]? = some (.ml l ds) := fun ds => set_get hsl
  refine wE_of (pe_call F hr hg hm hk hb .nil pass0 (pa_cons (wE_pe _) (pa_cons (wE_pe e1) pa_nil he1) he) hdb he hpl) (row_name S (hget ds) hN hv hd hcd _ (h1.run S RD _ fun v1 G1 H1 ds1 d1 R1 p1 S1 g1 r1 => ?_))
  obtain ⟨xs, k1, k2, k3, k4⟩ := S1.ml (hget ds1)
  refine ⟨G1, l, xs, ds1, [v1], [.v d1], rfl, S1.same, k2, k3, k4, R1, .v r1 .nil, hA d1 p1, fun G' H' xs' ds' v d g3 q1 q2 q3 q4 q5 q6 => ?_⟩
  have S3 := S1.row (hget ds1) g3 q1 q2 q3
  rw [List.set_set] at S3
  exact q v G' H' ds' d q4 ⟨d1, p1, q5⟩ S3 (g1.trans g3.g) q6
/-! tests -/
structure DTR (X : Cx) (C : Addr) (env : DEnv) (i : Nat) (a : Addr) (e : Expr) (P : Bool → Prop) : Prop where
  run : ∀ {G0 H0 G H : Hp} {σ : L2.St} {ds : List PyData}, St C G0 H0 G H σ (env.set i (.ml a ds)) → RowD ds → ∀ Q : Bool → Hp → Prop,
    (∀ k G' H' ds', RowD ds' → P k → St C G0 H0 G' H' σ (env.set i (.ml a ds')) → Same G G' → Q k H') → wT X e σ H Q
theorem ds_ifR {c : Expr} {th el : List Stmt} {P : Bool → Prop} (hm : env[s]? = some (.ml l ds)) (RD : RowD ds) (hc : DTR X C env s l c P) (h1 : ∀ ds', RowD ds' → P true → DB X C th (env.set s (.ml l ds')) D) (h2 : ∀ ds', RowD ds' → P false → DB X C el (env.set s (.ml l ds')) D) : DS X C (.If c th el pos) env D := .mk fun S E q =>
  wS_of (ps_if (wT_pt c) (wSs_pss th) (wSs_pss el)) (hc.run (S.set hm) RD _ fun k G' H' ds' R' pk S' sm => by
    cases k with
    | true => exact ite2 (fun _ => (h1 ds' R' pk).run S' E (q.later sm)) (fun z => absurd rfl z)
    | false => exact ite2 (fun z => nomatch z) (fun _ => (h2 ds' R' pk).run S' E (q.later sm)))
/-- e1 == e2, e1 <= e2: e1 changes the row -/
theorem dtr_eq {i : Int} (ha : DER X C env s l a (fun d => ∃ k, d = .int k)) (hb : ∀ ds, DE X C (env.set s (.ml l ds)) b (.int i)) : DTR X C env s l (.Compare a [.Eq] [b] pos) (fun _ => True) := .mk fun S R Q q =>
  wT_of (pt_cmpR op_eq (wE_pe a) (wE_pe b) (nomark _)) (ha.run S R _ fun v G1 H1 ds1 d1 R1 ⟨k, e⟩ S1 sm1 r1 => (hb ds1).run S1 _ fun w G2 H2 g2 r2 => by
    subst e
    cases r1; cases r2
    exact ⟨rfl, _, rfl, q _ _ _ _ R1 trivial (S1.grow g2) (sm1.trans g2.g)⟩)
theorem dtr_le {i : Int} (ha : DER X C env s l a (fun d => ∃ k, d = .int k)) (hb : ∀ ds, DE X C (env.set s (.ml l ds)) b (.int i)) : DTR X C env s l (.Compare a [.LtE] [b] pos) (fun _ => True) := .mk fun S R Q q =>
  wT_of (pt_cmpR op_le (wE_pe a) (wE_pe b) (nomark _)) (ha.run S R _ fun v G1 H1 ds1 d1 R1 ⟨k, e⟩ S1 sm1 r1 => (hb ds1).run S1 _ fun w G2 H2 g2 r2 => by
    subst e
    cases r1; cases r2
    exact ⟨_, _, rfl, rfl, _, rfl, q _ _ _ _ R1 trivial (S1.grow g2) (sm1.trans g2.g)⟩)
/-- a and b: a changes the row -/
theorem dtr_and {k' : Bool} (ha : DTR X C env s l a (fun _ => True)) (hb : ∀ ds, DT X C (env.set s (.ml l ds)) b k') : DTR X C env s l (.BoolOp .And [a, b] pos) (fun k => k = true → k' = true) := .mk fun S R Q q =>
  wT_of (pw_and (wT_pt a) (pw_and1 (wT_pt b))).pt (ha.run S R _ fun k G1 H1 ds1 R1 _ S1 sm1 => by
    cases k with
    | true => exact ite2 (fun _ => (hb ds1).run S1 Q fun G2 H2 g2 => q _ _ _ _ R1 (fun z => z) (S1.grow g2) (sm1.trans g2.g)) (fun z => absurd rfl z)
    | false => exact ite2 (fun z => nomatch z) (fun _ => q _ _ _ _ R1 (fun z => nomatch z) S1 sm1))
/-- a, b = e1, e2, the first may change the row -/
theorem ds_parRV {px py pt : Pos} {kt k2 : Nat} {pt2 : Pos} (t u : Nat) (hm : env[s]? = some (.ml l ds)) (RD : RowD ds) (ha : DER X C env s l a P1) (hb : ∀ ds, DE X C (env.set s (.ml l ds)) b d) (h : ∀ d1 ds', P1 d1 → RowD ds' → D.nx (((env.set s (.ml l ds')).set t (.v d1)).set u (.v d))) (hc : X.calm = true) (hN : X.N.Nodup) (hi : t < env.length := by exact Nat.le_of_ble_eq_true rfl) (hj : u < env.length := by exact Nat.le_of_ble_eq_true rfl) (hij : t ≠ u := by decide)
    (hx : X.N[t]? = some x := by rfl) (hy : X.N[u]? = some y := by rfl) (hlx : X.env.scope.names.lookup x = some .local := by rfl) (hly : X.env.scope.names.lookup y = some .local := by rfl)
    (hw : swappedStores [.Tuple [.Name x px, .Name y py] kt pt] (.Tuple [a, b] k2 pt2) X.env = pure (some [x, y]) := by rfl) (hs : swapsWithSole [.Tuple [.Name x px, .Name y py] kt pt] (.Tuple [a, b] k2 pt2) pos.line X.env = pure false := by rfl)
    (he : starEach [a, b] X.env = (false, eval a X.env) :: starEach [b] X.env := by rfl) (he2 : starEach [b] X.env = (false, eval b X.env) :: starEach [] X.env := by rfl) :
    DS X C (.Assign [.Tuple [.Name x px, .Name y py] kt pt] (.Tuple [a, b] k2 pt2) pos) env D :=
  ds_parRR t u hm RD ha (DE.er hb) (fun d1 d' ds' p1 e R' => by subst e; exact h d1 ds' p1 R') hc hN hi hj hij hx hy hlx hly hw hs he he2
theorem de_pow {i j : Int} (ha : DE X C env a (.int i)) (hb : DE X C env b (.int j)) (hm : CPow i j) : DE X C env (.BinOp a .Pow b pos) (.int (i ^ j.toNat)) := .mk fun S Q q =>
  wE_of (pe_op op_pow (wE_pe a) (wE_pe b)) (ha.run S _ fun v G1 H1 g1 r1 => hb.run (S.grow g1) _ fun w G2 H2 g2 r2 => by
    cases r1; cases r2
    exact ⟨i, j, rfl, rfl, hm, q _ _ _ (g1.trans g2) (.int _)⟩)
end
end TD
namespace TD
open PySem L2 TS
section
variable {w : World} {K : PySem.W.Frag} {mg : Str → Option Value} {base : Heap} {C : Addr} {f : Addr} {fd : FuncData}
abbrev s_pick : Stmt := top 84
theorem sc_pick : FnScope ["_law_row", "_law_many", "_law_cell", "_law_found"] ["_law_row", "_law_many"] (defScope s_pick) := ⟨rfl, rfl, rfl, by decide +kernel, rfl, by decide +kernel, by decide +kernel⟩
def A_pick (sl : List Sl) : Prop := ∃ m : Int, sl = [.v (.int m)] ∧ 0 < m ∧ m < 2000
def R_pick (sl : List Sl) (d : PyData) : Prop := ∃ m k : Int, sl = [.v (.int m)] ∧ d = .int k ∧ 0 ≤ k ∧ k < m
theorem ok_pick (T : Tp mg) (F : Fun K "_law_pick" "_law_pick" s_pick f fd) : FnOk PP w K mg base CX0 1 f fd ["_law_row", "_law_many"] (spRw C A_pick R_pick) :=
  mkFnR F sc_pick (fun sl ⟨_, e, _⟩ => by rw [e]; rfl) fun cdv Ar outer s H E hr l ds sl RD hA => by
    obtain ⟨m, rfl, hm0, hm⟩ := hA
    obtain ⟨ns, p, wd, q, rfl, hp⟩ := RD
    have nd := sc_pick.nd
    show DB _ C _ [.ml l [.list (ns.map .int), .int p, .int wd, .int q], .v (.int m), .no, .no] _
    refine db_cons (ds_to (fun env => ∃ p' w' q' x, 0 ≤ p' ∧ env = [.ml l [.list (ns.map .int), .int p', .int w', .int q'], .v (.int m), x, .no]) (ds_if (dt_cmp (dc_eqI (de_ixL (d := .int wd) (dl_nameA 0 rfl) de_int rfl) de_int)) (fun _ => ?_) (fun _ => db_nil ⟨p, wd, q, .no, hp, rfl⟩)) ?_)
    · refine db_cons (ds_if (dt_cmp (dc_lt (de_ixL (d := .int p) (dl_nameA 0 rfl) de_int rfl) (de_len T (de_ixL (d := .list (ns.map .int)) (dl_nameA 0 rfl) de_int rfl).dq'))) (fun k => ?_) (fun _ => ?_))
      · have k : p < ((ns.map PyData.int).length : Int) := of_decide_eq_true k
        rw [List.length_map] at k
        have hpn : p.toNat < ns.length := by omega
        have ep : p = ((p.toNat : Nat) : Int) := by omega
        refine db_cons (ds_set 2 (d := .int (gt ns p.toNat)) (de_ixL (de_ixL (d := .list (ns.map .int)) (dl_nameA 0 rfl) de_int rfl).dl (de_ixL (d := .int p) (dl_nameA 0 rfl) de_int rfl) (by rw [ep]; exact atI_ints hpn)) ?_ nd)
        refine db_cons (ds_setIA (j := 1) 0 rfl (de_add (de_ixL (d := .int p) (dl_nameA 0 rfl) de_int rfl) de_int) de_int (Nat.le_of_ble_eq_true rfl) ?_)
        refine db_cons (ds_if (dt_cmp (dc_ge (de_name 2) (de_pow de_int de_int ⟨by decide, by decide, by decide⟩))) (fun _ => ?_) (fun _ => ?_))
        · exact db_cons (ds_setIA (j := 2) 0 rfl (de_name 2) de_int (Nat.le_of_ble_eq_true rfl) (db_nil (db_nil (db_nil ⟨_, _, _, _, by omega, rfl⟩))))
        · exact db_cons (ds_setIA (j := 3) 0 rfl (de_mod (de_intI T (de_add (de_add (de_mul (de_ixL (d := .int q) (dl_nameA 0 rfl) de_int rfl) de_int (.inr (by decide))) (de_mul (de_name 2) de_int (.inr (by decide)))) de_int)) de_int (by decide)) de_int (Nat.le_of_ble_eq_true rfl) (db_nil (db_nil (db_nil ⟨_, _, _, _, by omega, rfl⟩))))
      · exact db_cons (ds_setIA (j := 3) 0 rfl (de_mod (de_intI T (de_add (de_mul (de_ixL (d := .int q) (dl_nameA 0 rfl) de_int rfl) de_int (.inr (by decide))) de_int)) de_int (by decide)) de_int (Nat.le_of_ble_eq_true rfl) (db_nil (db_nil ⟨_, _, _, _, hp, rfl⟩)))
    · rintro env1 ⟨p', w', q', x, hp', rfl⟩
      refine db_cons (ds_if (dt_cmp (dc_gt (de_ixL (d := .int w') (dl_nameA 0 rfl) de_int rfl) de_int)) (fun _ => ?_) (fun _ => ?_))
      · refine db_cons (ds_set 3 (de_mod (de_intI T (de_ixL (d := .int w') (dl_nameA 0 rfl) de_int rfl)) (de_name 1) hm0) ?_ nd)
        refine db_cons (ds_setIA (j := 2) 0 rfl (de_fdiv (de_ixL (d := .int w') (dl_nameA 0 rfl) de_int rfl) (de_name 1) ⟨hm0, by omega⟩) de_int (Nat.le_of_ble_eq_true rfl) ?_)
        exact db_cons (ds_ret (de_name 3) ⟨⟨m, _, rfl, rfl, Int.emod_nonneg _ (by omega), Int.emod_lt_of_pos _ hm0⟩, _, rfl, ns, p', _, q', rfl, hp'⟩)
      · exact db_nil (db_cons (ds_ret (de_mod (de_mod (de_intI T (de_mul (de_ixL (d := .int q') (dl_nameA 0 rfl) de_int rfl) de_int (.inr (by decide)))) de_int (by decide)) (de_name 1) hm0) ⟨⟨m, _, rfl, rfl, Int.emod_nonneg _ (by omega), Int.emod_lt_of_pos _ hm0⟩, _, rfl, ns, p', w', q', rfl, hp'⟩))
abbrev s_web : Stmt := top 85
theorem sc_web : FnScope ["_law_row", "_law_places", "_law_ties", "_law_many", "_law_found", "_law_thick", "_law_one", "_law_other"] ["_law_row", "_law_places", "_law_ties"] (defScope s_web) := ⟨rfl, rfl, rfl, by decide +kernel, rfl, by decide +kernel, by decide +kernel⟩
def A_web (sl : List Sl) : Prop := ∃ p t : Int, sl = [.v (.int p), .v (.int t)] ∧ 0 < p ∧ p ≤ 6 ∧ t ≤ 10
def R_web (_ : List Sl) (d : PyData) : Prop := ∃ n r, d = .tuple [dI n, dRows r] ∧ WebOk n r ∧ Srt r
/-- what stands after the rows of places below i, and of i those to below j -/
structure Part (n i j t : Nat) (r : List (Nat × Nat)) : Prop where
  lt : ∀ p ∈ r, p.1 < p.2 ∧ p.2 < n ∧ (p.1 < i ∨ (p.1 = i ∧ p.2 < j))
  srt : Srt r
  len : r.length ≤ t
theorem Part.add {n i j t : Nat} {r : List (Nat × Nat)} (h : Part n i j t r) (hij : i < j) (hj : j < n) (hl : r.length < t) : Part n i (j + 1) t (r ++ [(i, j)]) := by
  refine ⟨fun p hp => ?_, ?_, by rw [List.length_append, List.length_singleton]; omega⟩
  · rcases List.mem_append.mp hp with hp | hp
    · have := h.lt p hp; exact ⟨this.1, this.2.1, by omega⟩
    · rw [List.mem_singleton.mp hp]; exact ⟨hij, hj, .inr ⟨rfl, Nat.lt_succ_self _⟩⟩
  · refine List.pairwise_append.mpr ⟨h.srt, List.pairwise_singleton _ _, fun a ha b hb => ?_⟩
    rw [List.mem_singleton.mp hb]
    have := (h.lt a ha).2.2
    exact this
theorem Part.skip {n i j t : Nat} {r : List (Nat × Nat)} (h : Part n i j t r) : Part n i (j + 1) t r := ⟨fun p hp => by have := h.lt p hp; exact ⟨this.1, this.2.1, by omega⟩, h.srt, h.len⟩
theorem Part.next {n i j t : Nat} {r : List (Nat × Nat)} (h : Part n i j t r) : Part n (i + 1) (i + 1 + 1) t r := ⟨fun p hp => by have := h.lt p hp; exact ⟨this.1, this.2.1, by omega⟩, h.srt, h.len⟩
theorem Srt.nodup {r : List (Nat × Nat)} (h : Srt r) : r.Nodup := h.imp fun {a b} h e => by subst e; omega
theorem ok_web (T : Tp mg) (gP : DFnR PP w K mg base C "_law_pick" 1 A_pick R_pick) (F : Fun K "_law_web" "_law_web" s_web f fd) : FnOk PP w K mg base CX0 2 f fd ["_law_row", "_law_places", "_law_ties"] (spRw C A_web R_web) :=
  mkFnR F sc_web (fun sl ⟨_, _, e, _⟩ => by rw [e]; rfl) fun cdv Ar outer s H E hr l ds sl RD hA => by
    obtain ⟨pl, tt, rfl, hp0, hp6, ht10⟩ := hA
    have nd := sc_web.nd
    show DB _ C _ [.ml l ds, .v (.int pl), .v (.int tt), .no, .no, .no, .no, .no] _
    refine db_cons (ds_parRV (s := 0) 3 4 (d := dRows []) rfl RD (der_add (P' := fun k => 0 ≤ k ∧ k < pl) (fun ds => de_int) ((der_call gP hr (by show 0 < 8; decide) (fun ds => das_v (de_name 1) das_nil) ⟨pl, rfl, hp0, by omega⟩).imp fun d ⟨m, k, e1, e2, h1, h2⟩ => ⟨k, e2, h1, by cases e1; exact h2⟩)) (fun ds => de_tup da_nil) (fun d1 ds1 ⟨k, e, h1, h2⟩ R1 => ?_) rfl nd)
    subst e
    obtain ⟨n, hn⟩ : ∃ n : Nat, 1 + k = (n : Int) := ⟨(1 + k).toNat, by omega⟩
    rw [hn]
    have hn1 : 0 < n := by omega
    have hn6 : n ≤ 6 := by omega
    show DB _ C _ [.ml l ds1, .v (.int pl), .v (.int tt), .v (dI n), .v (dRows []), .no, .no, .no] _
    refine db_cons (ds_setR (s := 0) (t := 5) rfl R1 (der_add (P' := fun _ => True) (fun ds => de_int) ((der_call gP hr (by show 0 < 8; decide) (fun ds => das_v de_int das_nil) ⟨4, rfl, by decide, by decide⟩).imp fun d ⟨m, k, e1, e2, h1, h2⟩ => ⟨k, e2, trivial⟩)) (fun d2 ds2 ⟨th, e, _⟩ R2 => ?_) nd)
    subst e
    show DB _ C _ [.ml l ds2, .v (.int pl), .v (.int tt), .v (dI n), .v (dRows []), .v (.int (2 + th)), .no, .no] _
    refine db_cons (ds_for (fun i env => ∃ ds r x y, RowD ds ∧ Part n i (i + 1) 10 r ∧ env = [.ml l ds, .v (.int pl), .v (.int tt), .v (dI n), .v (dRows r), .v (.int (2 + th)), x, y]) PassesOwn.never rfl ((di_range1 T (de_name (d := dI n) 3) ⟨by omega, by omega⟩).cast (?_ : _ = (List.range n).map dI)) ⟨ds2, [], .no, .no, R2, ⟨fun _ h => (nomatch h), List.Pairwise.nil, by decide⟩, rfl⟩ ?_ ?_)
    · unfold dRange dI; rw [Int.toNat_natCast]; simp
    · rintro i d env1 hd ⟨ds3, r, x, y, R3, hpart, rfl⟩
      obtain ⟨i', hi, rfl⟩ := map_get hd
      have hin : i < n := by have := (List.getElem?_eq_some_iff.mp hi).1; rw [List.length_range] at this; exact this
      rw [List.getElem?_range hin] at hi
      cases hi
      refine ⟨_, _, dg_name 6 nd, ?_⟩
      refine db_cons (ds_for (fun j env => ∃ ds r y, RowD ds ∧ Part n i (i + 1 + j) 10 r ∧ env = [.ml l ds, .v (.int pl), .v (.int tt), .v (dI n), .v (dRows r), .v (.int (2 + th)), .v (dI i), y]) PassesOwn.never rfl ((di_range2 T (de_add (de_name 6) de_int) (de_name (d := dI n) 3) ⟨by omega, by omega, by omega, by omega⟩).cast (?_ : _ = (List.range (n - (i + 1))).map fun j => dI (i + 1 + j))) ⟨ds3, r, y, R3, hpart, rfl⟩ ?_ ?_)
      · unfold dRange dI
        have e1 : ((n : Int) - ((i : Int) + 1)).toNat = n - (i + 1) := by omega
        rw [e1]
        refine List.map_congr_left fun j _ => ?_
        show PyData.int _ = PyData.int _
        congr 1
      · rintro j d env2 hd2 ⟨ds4, r4, y, R4, hp4, rfl⟩
        obtain ⟨j', hj, rfl⟩ := map_get hd2
        have hjn : j < n - (i + 1) := by have := (List.getElem?_eq_some_iff.mp hj).1; rw [List.length_range] at this; exact this
        rw [List.getElem?_range hjn] at hj
        cases hj
        refine ⟨_, _, dg_name 7 nd, ?_⟩
        show DB _ C _ [.ml l ds4, .v (.int pl), .v (.int tt), .v (dI n), .v (dRows r4), .v (.int (2 + th)), .v (dI i), .v (dI (i + 1 + j))] _
        refine db_cons (ds_ifR (s := 0) rfl R4 (dtr_and (k' := decide (((r4.map dP).length : Int) < tt)) (dtr_le ((der_call gP hr (by show 0 < 8; decide) (fun ds => das_v de_int das_nil) ⟨6, rfl, by decide, by decide⟩).imp fun d ⟨m, k, e1, e2, h1, h2⟩ => ⟨k, e2⟩) (fun ds => de_name 5)) (fun ds => dt_cmp (dc_lt (de_len T (de_name (d := dRows r4) 4).dq) (de_name 2)))) (fun ds5 R5 k => ?_) (fun ds5 R5 _ => ?_))
        · have hl : ((r4.map dP).length : Int) < tt := of_decide_eq_true (k rfl)
          rw [List.length_map] at hl
          refine db_cons (ds_set 4 ((de_catT (de_name (d := dRows r4) 4) (de_tup (da_cons (de_tup (da_cons (de_name 6) (da_cons (de_name 7) da_nil))) da_nil)) ?_).cast (?_ : _ = dRows (r4 ++ [(i, i + 1 + j)]))) (db_nil (db_nil ⟨ds5, r4 ++ [(i, i + 1 + j)], _, R5, hp4.add (by omega) (by omega) (by omega), rfl⟩)) nd)
          · rw [List.length_map, sizeLine_eq]; simp; omega
          · unfold dRows; rw [List.map_append]; rfl
        · exact db_nil (db_nil ⟨ds5, r4, _, R5, hp4.skip, rfl⟩)
      · rintro env2 ⟨ds4, r4, y, R4, hp4, rfl⟩
        exact db_nil ⟨ds4, r4, _, _, R4, hp4.next, rfl⟩
    · rintro env1 ⟨ds3, r, x, y, R3, hpart, rfl⟩
      exact db_cons (ds_ret (de_tup (da_cons (de_name (d := dI n) 3) (da_cons (de_name (d := dRows r) 4) da_nil))) ⟨⟨n, r, rfl, ⟨hn1, hn6, fun p hp => ⟨(hpart.lt p hp).1, (hpart.lt p hp).2.1⟩, hpart.len, hpart.srt.nodup⟩, hpart.srt⟩, ds3, rfl, R3⟩)
abbrev s_wide : Stmt := top 87
theorem sc_wide : FnScope ["_law_row", "_law_places", "_law_ties"] ["_law_row", "_law_places", "_law_ties"] (defScope s_wide) := ⟨rfl, rfl, rfl, by decide +kernel, rfl, by decide +kernel, by decide +kernel⟩
theorem ok_wide (gP : DFnR PP w K mg base C "_law_pick" 1 A_pick R_pick) (gW : DFnR PP w K mg base C "_law_web" 2 A_web R_web) (F : Fun K "_law_wide" "_law_wide" s_wide f fd) : FnOk PP w K mg base CX0 3 f fd ["_law_row", "_law_places", "_law_ties"] (spRw C A_web R_web) :=
  mkFnR F sc_wide (fun sl ⟨_, _, e, _⟩ => by rw [e]; rfl) fun cdv Ar outer s H E hr l ds sl RD hA => by
    obtain ⟨pl, tt, rfl, hp0, hp6, ht10⟩ := hA
    have nd := sc_wide.nd
    show DB _ C _ [.ml l ds, .v (.int pl), .v (.int tt)] _
    refine db_cons (ds_ifR (s := 0) rfl RD (dtr_eq ((der_call gP (hr.mono (by decide)) (by show 0 < 3; decide) (fun ds => das_v de_int das_nil) ⟨10, rfl, by decide, by decide⟩).imp fun d ⟨m, k, e1, e2, h1, h2⟩ => ⟨k, e2⟩) (fun ds => de_int)) (fun ds1 R1 _ => ?_) (fun ds1 R1 _ => ?_))
    · exact db_cons (ds_retR (s := 0) rfl R1 (der_call gW hr (by show 0 < 3; decide) (fun ds => das_v de_int (das_v de_int das_nil)) ⟨6, 10, rfl, by decide, by decide, by decide⟩) (fun d ds2 h R2 => ⟨h, ds2, rfl, R2⟩))
    · exact db_nil (db_cons (ds_retR (s := 0) rfl R1 (der_call gW hr (by show 0 < 3; decide) (fun ds => das_v (de_name 1) (das_v (de_name 2) das_nil)) ⟨pl, tt, rfl, hp0, hp6, ht10⟩) (fun d ds2 h R2 => ⟨h, ds2, rfl, R2⟩)))
end
end TD
namespace TD
open PySem L2 TS
/-! ### a def that hands back a web; the draws -/
structure DFnW (P : Program) (w : World) (K : PySem.W.Frag) (mg : Str → Option Value) (base : Heap) (C : Addr) (x : Str) (k : Nat) : Prop where
  ex : ∃ f fd, FnOk P w K mg base CX0 k f fd ["_law_w"] (fun vs H Q _ => ∃ (G : Hp) (n : Nat) (r : List (Nat × Nat)), Same G H ∧ ArgsOk C G vs [.v (.tuple [dI n, dRows r])] ∧ WebOk n r ∧ Srt r ∧ ∀ v G' H', Gr G H G' H' → Rw C G' v n r → Q v H') ∧ mg x = some (.ref f) ∧ PySem.W.keepIn K (.ref f) = true ∧ Binds K fd ["_law_w"] []
section
variable {X : Cx} {C : Addr} {env : DEnv} {D : DEnds} {a e : Expr} {d : PyData} {pos p : Pos} {n : Nat} {r : List (Nat × Nat)} {x : Str} {k : Nat}
theorem ds_retW (he : DW X C env e n r) (h : ∀ H0 G' H' v, Rw C G' v n r → D.rx H0 G' H' v) : DS X C (.Return (some e) pos) env D := .mk fun S E q =>
  wS_of (ps_ret (wE_pe e)) (he.run S _ fun v G' H' g r => q.rx G' H' _ (S.gr.trans g) (h _ _ _ v r))
theorem dw_call {es : List Expr} (F : DFnW X.prog X.w X.K X.mg X.base C x k) (hr : Room k X.A) (ha : DAs X C env (e :: es) [.v (.tuple [dI n, dRows r])]) (wo : WebOk n r) (so : Srt r) (hg : Gl X x := by rfl)
    (hdb : (x == ("__debug__" : Str)) = false := by decide) (he : starEach (e :: es) X.env = (false, eval e X.env) :: starEach es X.env := by rfl) (hpl : (backTo pos (starEach es X.env)).any (·.1) = false := by rfl) :
    DW X C env (.Call (.Name x p) (e :: es) [] pos) n r := .mk fun S Q q => by
  obtain ⟨f, fd, F, hm, hk, hb⟩ := F.ex
  refine wE_of (pe_call F hr hg hm hk hb .nil pass0 (wA_pa _) hdb he hpl) (ha.run S _ fun vs G1 H1 g1 r1 => ?_)
  rw [List.append_nil]
  exact ⟨G1, n, r, g1.i, r1, wo, so, fun v G2 H2 g2 r2 => q v G2 H2 (g1.trans g2) r2⟩
end
section
variable {w : World} {K : PySem.W.Frag} {mg : Str → Option Value} {base : Heap} {C : Addr} {f : Addr} {fd : FuncData}
abbrev s_made : Stmt := top 86
theorem sc_made : FnScope ["_law_w"] ["_law_w"] (defScope s_made) := ⟨rfl, rfl, rfl, by decide +kernel, rfl, by decide +kernel, by decide +kernel⟩
theorem ok_made {g : Addr} {gd : FuncData} (M : Mk K C g) (gI : FnOk PP w K mg base CX0 3 g gd ["self", "places", "ties"] (spIn C)) (hm : mg "Web" = some (.ref C)) (hb : Binds K gd ["self", "places", "ties"] []) (F : Fun K "_law_made" "_law_made" s_made f fd) : FnOk PP w K mg base CX0 5 f fd ["_law_w"] (fun vs H Q _ => ∃ (G : Hp) (n : Nat) (r : List (Nat × Nat)), Same G H ∧ ArgsOk C G vs [.v (.tuple [dI n, dRows r])] ∧ WebOk n r ∧ Srt r ∧ ∀ v G' H', Gr G H G' H' → Rw C G' v n r → Q v H') := by
  refine F.ok sc_made (fun vs H Q E h => ?_) (fun cdv A outer s H vs Q E hr h => ?_)
  · obtain ⟨G, n, r, _, ha, _⟩ := h
    rw [args_len ha]; rfl
  · obtain ⟨G, n, r, hs, ha, wo, so, q⟩ := h
    have body : DB (cxOf CX0 PP w K mg base ["_law_w"] "_law_made" (defScope s_made) f cdv A outer s H E).nox C (defBody s_made) [.v (.tuple [dI n, dRows r])] { nx := fun _ => False, rt := fun _ _ => False, rx := fun H0 G' H' v => Rw C G' v n r } :=
      db_cons (ds_retW (dw_make M gI hr hm hb (das_v (de_ixT (d := dI n) (de_name (d := .tuple [dI n, dRows r]) 0) de_int rfl) (das_v (de_ixT (d := dRows r) (de_name (d := .tuple [dI n, dRows r]) 0) de_int rfl) das_nil)) wo so) (fun _ _ _ _ h => h))
    exact ⟨_, wSs_pss _, body.run (st_start hs ha) _ ⟨fun _ _ _ _ _ _ z => z.elim, fun _ _ _ _ _ _ _ _ _ z => z.elim, fun _ _ _ _ _ _ z => z.elim, fun _ _ _ _ _ _ z => z.elim, fun G' H' v g e => q v G' H' g e⟩⟩
abbrev s_draws : Stmt := top 83
theorem sc_draws : FnScope ["_law_script"] ["_law_script"] (defScope s_draws) := ⟨rfl, rfl, rfl, by decide +kernel, rfl, by decide +kernel, by decide +kernel⟩
def spDraws (K : PySem.W.Frag) : Sp := fun vs H Q _ => ∃ (a : Addr) (ns : List Int), vs = [.ref a] ∧ SqL K H a (ns.map V.int) ∧ ∀ (b p : Addr), H b = none → (upd H b (.lst (ns.map V.int))) p = none →
  Q (.ref p) (upd (upd H b (.lst (ns.map V.int))) p (.lst [.ref b, .int 0, .int 0, .int 7]))
theorem ok_draws (T : Tp mg) (F : Fun K "_law_draws" "_law_draws" s_draws f fd) : FnOk PP w K mg base CX0 1 f fd ["_law_script"] (spDraws K) := by
  refine F.ok sc_draws (fun vs H Q E h => ?_) (fun cdv A outer s H vs Q E hr h => ?_)
  · obtain ⟨a, ns, rfl, _⟩ := h; rfl
  · obtain ⟨a, ns, rfl, hS, q⟩ := h
    refine ⟨_, pss_one (ps_ret (pe_lst (pa_cons (pe_callTy call_list_of (by rfl) T.list (by decide +kernel) (pa_cons (pv 0) pa_nil)) (pa_cons pe_int (pa_cons pe_int (pa_cons pe_int pa_nil)))))), ?_⟩
    exact ⟨_, rfl, a, _, rfl, .inl hS, fun b hb => ⟨by show 4 ≤ sizeLine; rw [sizeLine_eq]; decide, fun p hp => q b p hb hp⟩⟩
abbrev s_led : Stmt := top 88
theorem sc_led : FnScope ["_law_web_here", "_law_one", "_law_other", "_law_found", "_law_row", "_law_place", "_law_before", "_law_told_of"] ["_law_web_here", "_law_one", "_law_other"] (defScope s_led) := ⟨rfl, rfl, rfl, by decide +kernel, rfl, by decide +kernel, by decide +kernel⟩
def R_led (sl : List Sl) (d : PyData) : Prop := ∃ (n : Nat) (r : List (Nat × Nat)) (a b : List Int), sl = [.web n r, .v (dInts a), .v (dInts b)] ∧ WebOk n r ∧ Facts n r (ringsD n r) ∧ a ∈ ringlessSigns n r ∧ b ∈ ringlessSigns n r ∧ d = .bool true
theorem isNone_dRing (o : Option (List Nat)) : isNone (dRing o) = o.isNone := by cases o <;> rfl
theorem eqv_lnat (l m : List Nat) : PyData.eqv (.list (l.map dI)) (.list (m.map dI)) = decide (l = m) := eqv_dec (enc := fun l : List Nat => PyData.list (l.map dI)) (fun l => clean_map clean_dI l) (fun a b h => map_inj dI_inj (PyData.list.inj h)) l m
theorem steps_ok {n : Nat} {r : List (Nat × Nat)} {rings : List (List Nat)} {a b : List Int} {p : Nat} {ps : List Nat} (h : Steps n r rings a (p :: ps) b) : p < n ∧ canTurn r a p = true ∧ (∃ h, heightsOf n r (turnedAt r a p) = some h) ∧ (∀ x ∈ rings, fwd r (turnedAt r a p) x = fwd r a x) ∧ Steps n r rings (turnedAt r a p) ps b := by
  cases h with
  | cons h1 h2 h3 h4 h5 => exact ⟨h1, h2, h3, h4, h5⟩
theorem steps_nil {n : Nat} {r : List (Nat × Nat)} {rings : List (List Nat)} {a b : List Int} (h : Steps n r rings a [] b) : a = b := by cases h; rfl
theorem ok_led (T : Tp mg) (gT : DFn PP w K mg base C "turns" 5 R_turns) (gR : DFn PP w K mg base C "ring_apart" 9 R_ring_apart) (gA : DFn PP w K mg base C "all_turned" 5 R_all_turned) (gB : DFn PP w K mg base C "both_ways" 9 R_both_ways) (gU : DFn PP w K mg base C "turned" 5 R_turned) (F : Fun K "_law_led" "_law_led" s_led f fd) : FnOk PP w K mg base CX0 10 f fd ["_law_web_here", "_law_one", "_law_other"] (spD C R_led) :=
  mkFn F sc_led (fun sl d ⟨_, _, _, _, e, _⟩ => by rw [e]; rfl) fun cdv A outer s H E hr sl d hR => by
    obtain ⟨n, r, a, b, rfl, wo, FA, ha, hb, rfl⟩ := hR
    have nd := sc_led.nd
    have ra := rl_of ha
    have rb := rl_of hb
    obtain ⟨hstep, hnone⟩ := FA.led a ha b hb
    have hu : (A.deeper (PyProof.Rows.envOfC "_law_led" (defScope s_led) s.heap.objs.size f cdv)).units + 65 < cLine := by have := hr.un; omega
    refine db_cons (ds_par 3 4 (de_name 1) (de_call gT (hr.mono (by decide)) (das_w (dw_name 0) (das_v (de_name 1) (das_v (de_name 2) das_nil))) ⟨n, r, a, b, rfl, wo, ra, rb, rfl⟩) ?_ rfl nd)
    generalize hlk : look (rowsFrom n r a) b = lk at hstep hnone
    have hap : (ringApart n r a b).isNone = !lk.isNone := by
      unfold ringApart
      cases hf : (ringsD n r).filter (fun x => !decide (fwd r a x = fwd r b x)) with
      | nil =>
        have : ¬ lk = none := fun z => by
          obtain ⟨x, hx, hne⟩ := hnone.mp z
          have : x ∈ (ringsD n r).filter (fun x => !decide (fwd r a x = fwd r b x)) := List.mem_filter.mpr ⟨hx, by simpa using hne⟩
          rw [hf] at this; cases this
        cases lk with
        | none => exact absurd rfl this
        | some _ => rfl
      | cons x t =>
        have hx : x ∈ (ringsD n r).filter (fun x => !decide (fwd r a x = fwd r b x)) := by rw [hf]; exact List.mem_cons_self
        obtain ⟨h1, h2⟩ := List.mem_filter.mp hx
        have : lk = none := hnone.mpr ⟨x, h1, by simpa using h2⟩
        rw [this]; rfl
    have hkey : decide (b ∈ allTurned n r a) = !lk.isNone := by
      rw [← hlk]
      have e : b ∈ allTurned n r a ↔ (look (rowsFrom n r a) b).isSome = true := by rw [(allTurned_perm n r a).mem_iff]; exact look_some
      cases q : look (rowsFrom n r a) b with
      | none => rw [q] at e; exact decide_eq_false (fun z => nomatch (e.mp z))
      | some _ => rw [q] at e; exact decide_eq_true (e.mpr rfl)
    refine db_cons (ds_if (k := false) ((dt_cmp (dc_neB (de_cmp (dc_isN (de_name (d := dRing lk) 4))) (de_cmp (dc_notN (de_call gR hr (das_w (dw_name 0) (das_v (de_name 1) (das_v (de_name 2) das_nil))) ⟨n, r, a, b, rfl, wo, ra, rb, rfl⟩))))).cast (by rw [isNone_dRing, isNone_dRing, hap]; cases lk.isNone <;> rfl)) (fun k => nomatch k) (fun _ => ?_))
    refine db_nil (db_cons (ds_if (k := false) ((dt_cmp (dc_eqB (de_cmp (dc_isN (de_name (d := dRing lk) 4))) (de_cmp (dc_inL (k := decide (b ∈ allTurned n r a)) hu (de_name 2).dr (de_call gA (hr.mono (by decide)) (das_w (dw_name 0) (das_v (de_name 1) das_nil)) ⟨n, r, a, rfl, wo, ra, rfl⟩).dr (lay_dInts b).sh (lay_dSgs _).sh ((any_eqv clean_dInts dInts_inj _ _).trans (decide_eq_decide.mpr Iff.rfl)))))).cast (by rw [isNone_dRing, hkey]; cases lk.isNone <;> rfl)) (fun k => nomatch k) (fun _ => ?_)))
    refine db_nil (db_cons (ds_for (fun i env => ∃ c x y, Rl n r c ∧ (∀ path, lk = some path → Steps n r (ringsD n r) c (path.drop i) b) ∧ env = [.web n r, .v (dInts a), .v (dInts b), .v (dInts c), .v (dRing lk), x, y, .no]) PassesOwn.never rfl (di_tup (ds := (lk.getD []).map dI) (de_if (dt_cmp (dc_notN (de_name (d := dRing lk) 4))) (fun k => ?_) (fun k => ?_))) ⟨a, .no, .no, ra, fun path e => by rw [List.drop_zero]; exact hstep path e, rfl⟩ ?_ ?_))
    · cases lk with
      | none => cases k
      | some p => exact de_name 4
    · cases lk with
      | none => exact de_tup da_nil
      | some p => cases k
    · rintro i d env1 hd ⟨c, x, y, rc, hst, rfl⟩
      obtain ⟨p, hp, rfl⟩ := map_get hd
      cases lk with
      | none => cases hp
      | some path =>
        have hp : path[i]? = some p := hp
        have hdr : path.drop i = p :: path.drop (i + 1) := by
          obtain ⟨h1, h2⟩ := List.getElem?_eq_some_iff.mp hp
          rw [List.drop_eq_getElem_cons h1, h2]
        have hs := hst path rfl
        rw [hdr] at hs
        obtain ⟨q1, q2, q3, q4, q5⟩ := steps_ok hs
        have rc' : Rl n r (turnedAt r c p) := ⟨turned_ok rc.1 p, q3⟩
        have hl := ringsD_len wo
        refine ⟨_, _, dg_name 5 nd, ?_⟩
        refine db_cons (ds_set 6 (de_call gB hr (das_w (dw_name 0) (das_v (de_name 3) das_nil)) ⟨n, r, c, rfl, wo, rc.1, rfl⟩) ?_ nd)
        refine db_cons (ds_set 3 (de_call gU (hr.mono (by decide)) (das_w (dw_name 0) (das_v (de_name 3) (das_v (de_name 5) das_nil))) ⟨n, r, c, p, rfl, wo, rc, q1, q2, rfl⟩) ?_ nd)
        refine db_cons (ds_if (k := false) (dt_cmp (dc_ne hr.units (dn_map [("_law_told_of", 7)] (dBw r (turnedAt r c p)) (ringsD n r) (fun x => dI (fwd r (turnedAt r c p) x)) rfl sc_led (di_list (de_call gB hr (das_w (dw_name 0) (das_v (de_name 3) das_nil)) ⟨n, r, turnedAt r c p, rfl, wo, rc'.1, rfl⟩)) (by omega) fun x hx => ⟨_, _, ?_, ?_, fun s H Cc cl fp => ⟨dg_name 7 nd, de_ixT (d := dI (fwd r (turnedAt r c p) x)) (de_name (d := dBw r (turnedAt r c p) x) 7) de_int rfl⟩⟩).dl.dr
          (dn_map [("_law_told_of", 7)] (dBw r c) (ringsD n r) (fun x => dI (fwd r c x)) rfl sc_led (di_list (de_name 6)) (by omega) fun x hx => ⟨_, _, ?_, ?_, fun s H Cc cl fp => ⟨dg_name 7 nd, de_ixT (d := dI (fwd r c x)) (de_name (d := dBw r c x) 7) de_int rfl⟩⟩).dl.dr ?_ ?_ ?_)) (fun k => nomatch k) (fun _ => db_nil (db_nil ⟨turnedAt r c p, .v (dI p), _, rc', fun path' e => by cases e; exact q5, rfl⟩)))
        · decide
        · rfl
        · decide
        · rfl
        · have : Lay 1 (.list (((ringsD n r).map fun x => fwd r (turnedAt r c p) x).map dI)) := lay_lst lay_dI _
          rw [List.map_map] at this
          exact this.sh
        · have : Lay 1 (.list (((ringsD n r).map fun x => fwd r c x).map dI)) := lay_lst lay_dI _
          rw [List.map_map] at this
          exact this.sh
        · have e1 : ((ringsD n r).map fun x => dI (fwd r (turnedAt r c p) x)) = ((ringsD n r).map fun x => fwd r (turnedAt r c p) x).map dI := by rw [List.map_map]; rfl
          have e2 : ((ringsD n r).map fun x => dI (fwd r c x)) = ((ringsD n r).map fun x => fwd r c x).map dI := by rw [List.map_map]; rfl
          rw [e1, e2, eqv_lnat, decide_eq_true (List.map_congr_left q4)]; rfl
    · rintro env1 ⟨c, x, y, rc, hst, rfl⟩
      rw [List.length_map] at hst
      refine db_cons (ds_ret (de_or (k := isNone (dRing lk)) (k' := decide (c = b)) (de_cmp (dc_isN (de_name (d := dRing lk) 4))) fun _ => de_one (de_cmp (dc_eq hr.units (de_name 3).dr (de_name 2).dr (lay_dInts c).sh (lay_dInts b).sh (eqv_dInts c b)))) ?_)
      cases lk with
      | none => rfl
      | some path =>
        have hs := hst path rfl
        rw [show (Option.some path).getD [] = path from rfl, List.drop_length] at hs
        have e := steps_nil hs
        subst e
        show PyData.bool (false || decide (c = c)) = _
        rw [decide_eq_true rfl]; rfl
end
end TD
namespace TD
open PySem L2 TS
section
variable {w : World} {K : PySem.W.Frag} {mg : Str → Option Value} {base : Heap} {C : Addr} {f : Addr} {fd : FuncData}
abbrev s_law : Stmt := top 89
theorem sc_law : FnScope ["_law_script", "_law_row", "_law_w", "_law_web_here", "_law_every", "_law_fewest", "_law_tops", "_law_total", "_law_signs", "_law_told_of", "_law_found", "_law_k", "_law_one", "_law_other", "_law_hours", "_law_low", "_law_apart", "_law_does", "_law_value"] ["_law_script"] (defScope s_law) := ⟨rfl, rfl, rfl, by decide +kernel, rfl, by decide +kernel, by decide +kernel⟩
def spLaw (K : PySem.W.Frag) : Sp := fun vs H Q _ => ∃ (a : Addr) (ns : List Int), vs = [.ref a] ∧ SqL K H a (ns.map V.int) ∧ ns.length ≤ 63 ∧ ∀ H', Q (.bl true) H'
structure Gs (w : World) (K : PySem.W.Frag) (mg : Str → Option Value) (base : Heap) (C : Addr) : Prop where
  pick : DFnR PP w K mg base C "_law_pick" 1 A_pick R_pick
  wide : DFnR PP w K mg base C "_law_wide" 3 A_web R_web
  made : DFnW PP w K mg base C "_law_made" 5
  signings : DFn PP w K mg base C "signings" 5 R_ringless_signs
  least : DFn PP w K mg base C "least" 9 R_least_of
  many_signings : DFn PP w K mg base C "many_signings" 9 R_many_signings
  colouring : DFn PP w K mg base C "colouring" 8 R_colouring
  read_off : DFn PP w K mg base C "read_off" 5 R_read_off
  leads_round : DFn PP w K mg base C "leads_round" 4 R_leads_round
  signs_of : DFn PP w K mg base C "signs_of" 4 R_signs_of
  signs_with : DFn PP w K mg base C "signs_with" 5 R_signs_with
  longest : DFn PP w K mg base C "longest" 5 R_way_of
  polynomial : DFn PP w K mg base C "polynomial" 9 R_powers_of
  shows : DFn PP w K mg base C "shows" 3 R_shows
  paper : DFn PP w K mg base C "paper" 8 R_paper
  many_colourings : DFn PP w K mg base C "many_colourings" 9 R_many_colourings
  led : DFn PP w K mg base C "_law_led" 10 R_led
  least_clock : DFn PP w K mg base C "least_clock" 11 R_least_clock
  clock : DFn PP w K mg base C "clock" 8 R_clock
  is_timed : DFn PP w K mg base C "is_timed" 3 R_is_timed
  strain : DFn PP w K mg base C "strain" 10 R_strain
  times_by : DFn PP w K mg base C "times_by" 4 R_times_by
abbrev XL (w : World) (K : PySem.W.Frag) (mg : Str → Option Value) (base : Heap) (f : Addr) (cdv : Value) (A : Around) (outer : List Env) (s : Shared) (H : Hp) (E : XK) : Cx := (cxOf CX0 PP w K mg base ["_law_script", "_law_row", "_law_w", "_law_web_here", "_law_every", "_law_fewest", "_law_tops", "_law_total", "_law_signs", "_law_told_of", "_law_found", "_law_k", "_law_one", "_law_other", "_law_hours", "_law_low", "_law_apart", "_law_does", "_law_value"] "law" (defScope s_law) f cdv A outer s H E).nox
abbrev DL0 : DEnds := { nx := fun _ => False, rt := fun d _ => d = .bool true }
section
variable {cdv : Value} {A : Around} {outer : List Env} {s : Shared} {H : Hp} {E : XK} {n m : Nat} {r : List (Nat × Nat)} {l : Addr} {ds : List PyData}
def hOf (n : Nat) (r : List (Nat × Nat)) (sg : List Int) : List Int := (heightsOf n r sg).getD []
theorem hOf_some {sg h : List Int} (e : heightsOf n r sg = some h) : hOf n r sg = h := by unfold hOf; rw [e]; rfl
def tops (n : Nat) (r : List (Nat × Nat)) (sgs : List (List Int)) : List Int := sgs.map fun sg => 1 + topOf (hOf n r sg)
theorem dRows_ne : (!PyData.eqv (dRows r) (.tuple [])) = !decide (r = []) := by
  show (!PyData.eqv (dRows r) (dRows [])) = _
  rw [eqv_dRows]
theorem dRows_eq : PyData.eqv (dRows r) (.tuple []) = decide (r = []) := by
  show PyData.eqv (dRows r) (dRows []) = _
  rw [eqv_dRows]
/-- the end: a clock, times by signs -/
theorem law_e (G : Gs w K mg base C) (T : Tp mg) (hr : Room 12 (A.deeper (PyProof.Rows.envOfC "law" (defScope s_law) s.heap.objs.size f cdv))) (wo : WebOk n r) (FA : Facts n r (ringsD n r)) {one : List Int} (ho : one ∈ ringlessSigns n r) {h a x y : Nat} {sg : List Int} (hk : HrOk h a) (hlow : leastStrain r (ringsD n r) (ringlessSigns n r) = some (x, y, sg)) {y0 y1 y2 y3 y4 y5 y6 y7 y8 y9 y10 : Sl} :
    DB (XL w K mg base f cdv A outer s H E) C ((defBody s_law).drop 18) [y0, .ml l ds, .v (.tuple [dI n, dRows r]), .web n r, y1, y2, y3, y4, y5, y6, y7, y8, .v (dInts one), y9, .v (dI h), y10, .v (dI a), .v (.bool (decide ((a : Int) * x ≤ (h : Int) * y))), .v (dOpt (clockOf n r h a))] DL0 := by
  have nd := sc_law.nd
  have ro := rl_of ho
  obtain ⟨x', y', s', hl', hclk⟩ := FA.low
  rw [hlow] at hl'
  cases hl'
  refine db_cons (ds_if (k := false) ?_ (fun k => nomatch k) (fun _ => ?_))
  · by_cases e : r = []
    · exact DPW.dt (dw_andF ((dt_cmp (dc_ne (by have := hr.un; exact hr.units) (de_ixT (d := dRows r) (de_name (d := .tuple [dI n, dRows r]) 2) de_int rfl).dr (de_tup da_nil).dr (lay_dRows r).sh (lay_dRows []).sh dRows_ne)).cast (by rw [e]; rfl)))
    · refine DPW.dt (dw_and' ((dt_cmp (dc_ne hr.units (de_ixT (d := dRows r) (de_name (d := .tuple [dI n, dRows r]) 2) de_int rfl).dr (de_tup da_nil).dr (lay_dRows r).sh (lay_dRows []).sh dRows_ne)).cast (by rw [decide_eq_false e]; rfl)) (dw_and1 ((dt_cmp (dc_neB (de_cmp (dc_notN (de_name (d := dOpt (clockOf n r h a)) 18))) (de_name (d := .bool (decide ((a : Int) * x ≤ (h : Int) * y))) 17))).cast ?_)))
      have q := hclk e h a hk.lo hk.le hk.hi
      rw [dOpt_none]
      have q2 : (clockOf n r h a).isSome = decide ((a : Int) * x ≤ (h : Int) * y) := by
        rw [Bool.eq_iff_iff, q, decide_eq_true_iff, ← Int.natCast_mul, ← Int.natCast_mul, Int.ofNat_le]
      rw [q2]; cases decide ((a : Int) * x ≤ (h : Int) * y) <;> rfl
  refine db_nil (db_cons (ds_if (k := false) ?_ (fun k => nomatch k) (fun _ => ?_)))
  · cases hc : clockOf n r h a with
    | none => exact DPW.dt (dw_andF (dt_cmp (dc_notN (de_name (d := dOpt none) 18))))
    | some ts =>
      obtain ⟨q1, q2⟩ := FA.clk h a hk.lo hk.le hk.hi ts hc
      have hlen : ts.length = n := by have := firstOn_len n [] ts hc; simpa using this
      refine DPW.dt (dw_and' (dt_cmp (dc_notN (de_name (d := dOpt (some ts)) 18))) (dw_and1 (dt_not (k := true) ((dt_val (de_call G.is_timed (hr.mono (by decide)) (das_w (dw_name 3) (das_v (de_name 14) (das_v (de_name 16) (das_v (de_name (d := dInts ts) 18) das_nil)))) ⟨n, r, h, a, ts, rfl, wo, hk, hlen, q2, rfl⟩)).cast q1))))
  refine db_nil (db_cons (ds_set 9 (de_call G.strain (hr.mono (by decide)) (das_w (dw_name 3) (das_v (de_name 12) das_nil)) ⟨n, r, one, rfl, wo, ro, rfl⟩) ?_ nd))
  refine db_cons (ds_if (k := decide (r = [])) (dt_cmp (dc_eq hr.units (de_ixT (d := dRows r) (de_name (d := .tuple [dI n, dRows r]) 2) de_int rfl).dr (de_tup da_nil).dr (lay_dRows r).sh (lay_dRows []).sh dRows_eq)) (fun _ => ?_) (fun k => ?_))
  · exact db_cons (ds_ret de_bl rfl)
  · have e : ¬ r = [] := of_decide_eq_false k
    have q := FA.tby e one ho h a hk.lo hk.le hk.hi
    obtain ⟨t1, t2⟩ := strain_le wo one
    have h12 := hk.hi
    have ha := hk.le
    generalize hst : strainOf r (ringsD n r) one = st at q t1 t2
    obtain ⟨s1, s2, s3⟩ := st
    refine db_nil (db_cons (ds_ret (de_cmp (dc_eqB (i := (timesBy n r one h a).isSome) (j := decide ((a : Int) * s1 ≤ (h : Int) * s2)) ((de_cmp (dc_notN (de_call G.times_by (hr.mono (by decide)) (das_w (dw_name 3) (das_v (de_name 12) (das_v (de_name 14) (das_v (de_name 16) das_nil)))) ⟨n, r, one, h, a, rfl, wo, ro.1, hk, rfl⟩))).cast (by rw [dOpt_none])) (de_cmp (dc_ge (de_mul (i := (h : Int)) (j := (s2 : Int)) (de_name 14) (de_ixT (d := dI s2) (de_name (d := dStr (s1, s2, s3)) 9) de_int rfl) (.inl (by omega))) (de_mul (i := (a : Int)) (j := (s1 : Int)) (de_name 16) (de_ixT (d := dI s1) (de_name (d := dStr (s1, s2, s3)) 9) de_int rfl) (.inl (by omega))))))) ?_))
    have q2 : (timesBy n r one h a).isSome = decide ((a : Int) * s1 ≤ (h : Int) * s2) := by
      rw [Bool.eq_iff_iff, q, decide_eq_true_iff, ← Int.natCast_mul, ← Int.natCast_mul, Int.ofNat_le]
    show PyData.bool _ = _
    rw [q2, beq_self_eq_true]
/-- two signings are drawn, a clock -/
theorem law_d (G : Gs w K mg base C) (T : Tp mg) (hr : Room 12 (A.deeper (PyProof.Rows.envOfC "law" (defScope s_law) s.heap.objs.size f cdv))) (wo : WebOk n r) (FA : Facts n r (ringsD n r)) (hne : ringlessSigns n r ≠ []) (RD : RowD ds) {y0 y5 y6 y7 y8 y9 y10 y11 y12 y13 y14 y15 y16 y17 y18 : Sl} :
    DB (XL w K mg base f cdv A outer s H E) C ((defBody s_law).drop 12) [y0, .ml l ds, .v (.tuple [dI n, dRows r]), .web n r, .v (dSgs (ringlessSigns n r)), y5, y6, y7, y8, y9, y10, y11, y12, y13, y14, y15, y16, y17, y18] DL0 := by
  have nd := sc_law.nd
  have hlen : (ringlessSigns n r).length ≤ 1024 := Nat.le_trans (List.length_filter_le _ _) (allSigns_le wo.len)
  have hpos : 0 < (ringlessSigns n r).length := List.length_pos_iff.mpr hne
  have dr : ∀ {env : DEnv} {e : Expr}, True := trivial
  refine db_cons (ds_parRR (s := 1) (P1 := fun d => d ∈ (ringlessSigns n r).map dInts) (P2 := fun d => d ∈ (ringlessSigns n r).map dInts) 12 13 rfl RD
    (der_ix (xs := (ringlessSigns n r).map dInts) (fun ds => de_name 4) ((der_call G.pick (hr.mono (by decide)) (by show 1 < 19; decide) (fun ds => das_v (de_len T (de_name (d := dSgs (ringlessSigns n r)) 4).dq') das_nil) ⟨_, rfl, by rw [List.length_map]; omega, by rw [List.length_map]; omega⟩).imp ?_))
    (der_ix (xs := (ringlessSigns n r).map dInts) (fun ds => de_name 4) ((der_call G.pick (hr.mono (by decide)) (by show 1 < 19; decide) (fun ds => das_v (de_len T (de_name (d := dSgs (ringlessSigns n r)) 4).dq') das_nil) ⟨_, rfl, by rw [List.length_map]; omega, by rw [List.length_map]; omega⟩).imp ?_))
    (fun d d' ds1 h1 h2 R1 => ?_) rfl nd)
  · rintro d ⟨m, k, e1, e2, h1, h2⟩
    cases e1
    exact ⟨k.toNat, by rw [e2]; unfold dI; congr 1; omega, by omega⟩
  · rintro d ⟨m, k, e1, e2, h1, h2⟩
    cases e1
    exact ⟨k.toNat, by rw [e2]; unfold dI; congr 1; omega, by omega⟩
  obtain ⟨one, ho, rfl⟩ := List.mem_map.mp h1
  obtain ⟨other, ho2, rfl⟩ := List.mem_map.mp h2
  refine db_cons (ds_if (k := false) (dt_not (k := true) (dt_val (de_call G.led (hr.mono (by decide)) (das_w (dw_name 3) (das_v (de_name 12) (das_v (de_name 13) das_nil))) ⟨n, r, one, other, rfl, wo, FA, ho, ho2, rfl⟩))) (fun k => nomatch k) (fun _ => ?_))
  obtain ⟨x, y, sg, hlow, _⟩ := FA.low
  refine db_nil (db_cons (ds_parRV (s := 1) 14 15 (d := .tuple [dI x, dI y]) rfl R1 (der_add (P' := fun k => 0 ≤ k ∧ k < 12) (fun ds => de_int) ((der_call G.pick (hr.mono (by decide)) (by show 1 < 19; decide) (fun ds => das_v de_int das_nil) ⟨12, rfl, by decide, by decide⟩).imp fun d ⟨m, k, e1, e2, h1, h2⟩ => ⟨k, e2, h1, by cases e1; exact h2⟩)) (fun ds => de_call G.least_clock (hr.mono (by decide)) (das_w (dw_name 3) das_nil) ⟨n, r, x, y, sg, rfl, wo, hlow, rfl⟩) (fun d1 ds2 ⟨k, e, h1, h2⟩ R2 => ?_) rfl nd))
  subst e
  obtain ⟨h, hh⟩ : ∃ h : Nat, 1 + k = (h : Int) := ⟨(1 + k).toNat, by omega⟩
  rw [hh]
  have h1' : 1 ≤ h := by omega
  have h12 : h ≤ 12 := by omega
  show DB _ C _ [y0, .ml l ds2, .v (.tuple [dI n, dRows r]), .web n r, .v (dSgs (ringlessSigns n r)), y5, y6, y7, y8, y9, y10, y11, .v (dInts one), .v (dInts other), .v (dI h), .v (.tuple [dI x, dI y]), y16, y17, y18] _
  refine db_cons (ds_setR (s := 1) (t := 16) rfl R2 (der_add (P' := fun k => 0 ≤ k ∧ k < (h : Int)) (fun ds => de_int) ((der_callR1 G.pick (hr.mono (by decide)) (by show 1 < 19; decide) (der_ix (xs := [dI h, .int (if (h : Int) < 3 then (h : Int) else 3)]) (fun ds => (dn_lst (da_cons (de_name 14) (da_cons (de_min2 T rfl de_int (de_name 14)) da_nil))).de) ((der_call G.pick (hr.mono (by decide)) (by show 1 < 19; decide) (fun ds => das_v de_int das_nil) ⟨2, rfl, by decide, by decide⟩).imp ?_)) ?_).imp ?_)) (fun d3 ds3 ⟨k3, e, h3, h4⟩ R3 => ?_) nd)
  · rintro d ⟨m, k, e1, e2, h1, h2⟩
    cases e1
    exact ⟨k.toNat, by rw [e2]; unfold dI; congr 1; omega, by show k.toNat < 2; omega⟩
  · intro d hd
    rcases List.mem_cons.mp hd with rfl | hd
    · exact ⟨(h : Int), rfl, by omega, by omega⟩
    · rw [List.mem_singleton.mp hd]
      exact ⟨_, rfl, by split <;> omega, by split <;> omega⟩
  · rintro d ⟨d1, hd, m, k, e1, e2, h1, h2⟩
    cases e1
    refine ⟨k, e2, h1, ?_⟩
    rcases List.mem_cons.mp hd with e | hd
    · cases e; exact h2
    · have e := List.mem_singleton.mp hd
      cases e
      split at h2 <;> omega
  subst e
  obtain ⟨a, haa⟩ : ∃ a : Nat, 1 + k3 = (a : Int) := ⟨(1 + k3).toNat, by omega⟩
  rw [haa]
  have hk : HrOk h a := ⟨by omega, by omega, h12⟩
  have ha12 := hk.le
  show DB _ C _ [y0, .ml l ds3, .v (.tuple [dI n, dRows r]), .web n r, .v (dSgs (ringlessSigns n r)), y5, y6, y7, y8, y9, y10, y11, .v (dInts one), .v (dInts other), .v (dI h), .v (.tuple [dI x, dI y]), .v (dI a), y17, y18] _
  refine db_cons (ds_set 17 (de_cmp (dc_ge (de_mul (i := (h : Int)) (j := (y : Int)) (de_name 14) (de_ixT (d := dI y) (de_name (d := .tuple [dI x, dI y]) 15) de_int rfl) (.inl (by omega))) (de_mul (i := (a : Int)) (j := (x : Int)) (de_name 16) (de_ixT (d := dI x) (de_name (d := .tuple [dI x, dI y]) 15) de_int rfl) (.inl (by omega))))) ?_ nd)
  refine db_cons (ds_set 18 (de_call G.clock (hr.mono (by decide)) (das_w (dw_name 3) (das_v (de_name 14) (das_v (de_name 16) das_nil))) ⟨n, r, h, a, rfl, wo, hk, rfl⟩) ?_ nd)
  exact law_e G T hr wo FA ho hk hlow
theorem alt_step {ps : List Int} {i : Nat} {c : Int} (h : ps[i]? = some c) : (ps.zipIdx.take (i + 1)).foldl (fun s q => s + q.1 * (1 - 2 * ((q.2 : Int) % 2))) 0 = (ps.zipIdx.take i).foldl (fun s q => s + q.1 * (1 - 2 * ((q.2 : Int) % 2))) 0 + c * (1 - 2 * ((i : Int) % 2)) := by
  have hz : ps.zipIdx[i]? = some (c, i) := by rw [List.getElem?_zipIdx, h]; simp
  rw [List.take_add_one, hz, List.foldl_append]; rfl
/-- the number of colourings -/
theorem law_c (G : Gs w K mg base C) (T : Tp mg) (hr : Room 12 (A.deeper (PyProof.Rows.envOfC "law" (defScope s_law) s.heap.objs.size f cdv))) (wo : WebOk n r) (FA : Facts n r (ringsD n r)) {t : List Nat} {cs : List Int} (hm : leastOf n r = m :: t) (h1 : 1 ≤ m) (h6 : m ≤ 6) (hc : colouringOf n r m = some cs) (co : ColOk n r cs) (hcs : ∀ c ∈ cs, c < (m : Int)) (hv1 : 1 ≤ valueAt (powersOf n r) m) (hv0 : valueAt (powersOf n r) ((m : Int) - 1) = 0) (hne : ringlessSigns n r ≠ []) (RD : RowD ds) {y0 y6 y8 y9 y10 y11 y12 y13 y14 y15 y16 y17 y18 : Sl} :
    DB (XL w K mg base f cdv A outer s H E) C ((defBody s_law).drop 8) [y0, .ml l ds, .v (.tuple [dI n, dRows r]), .web n r, .v (dSgs (ringlessSigns n r)), .v (dI m), y6, .v (.int 0), y8, y9, y10, y11, y12, y13, y14, y15, y16, y17, y18] DL0 := by
  have nd := sc_law.nd
  have hlen : (ringlessSigns n r).length ≤ 1024 := Nat.le_trans (List.length_filter_le _ _) (allSigns_le wo.len)
  refine db_cons (ds_set 10 (de_call G.polynomial (hr.mono (by decide)) (das_w (dw_name 3) das_nil) ⟨n, r, rfl, wo, rfl⟩) ?_ nd)
  have hpl : (powersOf n r).length ≤ 100 := by
    have inv := pow_inv (n := n) (lotsOn n r n []).zipIdx 0 (List.replicate (n + 1) 0) [1] (fun a q hq => by have := (zipIdx_at hq).1; omega) (by rw [List.length_zipIdx, lots_len]; have := wo.le; omega) List.length_replicate rfl (fun x hx => by simp at hx; subst hx; exact ⟨by decide, by decide⟩)
    have e : (powersOf n r).length = n + 1 := inv.1
    have := wo.le
    omega
  generalize hps : powersOf n r = ps at *
  refine db_cons (ds_for (fun i env => ∃ x, env = [y0, .ml l ds, .v (.tuple [dI n, dRows r]), .web n r, .v (dSgs (ringlessSigns n r)), .v (dI m), y6, .v (.int ((ps.zipIdx.take i).foldl (fun s q => s + q.1 * (1 - 2 * ((q.2 : Int) % 2))) 0)), y8, y9, .v (dInts ps), x, y12, y13, y14, y15, y16, y17, y18]) PassesOwn.never rfl ((di_range1 T (de_len T (de_name (d := dInts ps) 10).dq) ⟨by omega, by rw [List.length_map]; omega⟩).cast (?_ : _ = (List.range ps.length).map dI)) ⟨_, rfl⟩ ?_ ?_)
  · unfold dRange dI; rw [Int.toNat_natCast, List.length_map]; simp
  · rintro i d env1 hd ⟨x, rfl⟩
    obtain ⟨i', hi, rfl⟩ := map_get hd
    have hin : i < ps.length := by have := (List.getElem?_eq_some_iff.mp hi).1; rw [List.length_range] at this; exact this
    rw [List.getElem?_range hin] at hi
    cases hi
    refine ⟨_, _, dg_name 11 nd, ?_⟩
    rw [alt_step (gt_getElem hin)]
    have hb : (0 : Int) ≤ (i : Int) % 2 ∧ (i : Int) % 2 < 2 := ⟨Int.emod_nonneg _ (by decide), Int.emod_lt_of_pos _ (by decide)⟩
    exact db_cons (ds_set 7 (de_add (de_name 7) (de_mul (de_ixT (de_name (d := dInts ps) 10) (de_name 11) (atI_ints hin)) (de_sub de_int (de_mul de_int (de_mod (de_name (d := dI i) 11) de_int (by decide)) (.inl ⟨by decide, by decide⟩))) (.inr (by omega)))) (db_nil ⟨.v (dI i), rfl⟩) nd)
  · rintro env1 ⟨x, rfl⟩
    rw [List.length_map, List.length_range, List.take_of_length_le (by rw [List.length_zipIdx]; exact Nat.le_refl _)]
    have halt := FA.alt
    rw [hps] at halt
    have ea : (ps.zipIdx.foldl (fun s q => s + q.1 * (1 - 2 * ((q.2 : Int) % 2))) 0) = altSum ps := rfl
    rw [ea]
    refine db_cons (ds_if (k := false) ?_ (fun k => nomatch k) (fun _ => ?_))
    · refine DPW.dt (dw_or (k := false) (k' := false) ((dt_cmp (dc_neI (de_abs T (de_name 7)) (de_len T (de_name (d := dSgs (ringlessSigns n r)) 4).dq'))).cast ?_) (dw_or1 (dt_not (k := true) (dt_val (de_call G.shows (hr.mono (by decide)) (das_w (dw_name 3) (das_v (de_name 5) (das_v (de_call G.paper (hr.mono (by decide)) (das_w (dw_name 3) (das_v (de_name 5) das_nil)) ⟨n, r, m, cs, rfl, wo, h1, h6, hc, rfl⟩) das_nil))) ⟨n, r, m, cs, rfl, wo, h1, h6, co, hcs, rfl⟩)))))
      rw [List.length_map]
      have : (if altSum ps < 0 then -altSum ps else altSum ps) = ((ringlessSigns n r).length : Int) := halt
      rw [this, decide_eq_true rfl]; rfl
    refine db_nil (db_cons (ds_if (k := false) ?_ (fun k => nomatch k) (fun _ => ?_)))
    · refine DPW.dt (dw_or (k := false) (k' := false) ((dt_cmp (dc_lt (de_call G.many_colourings (hr.mono (by decide)) (das_w (dw_name 3) (das_v (de_name 5) das_nil)) ⟨n, r, m, rfl, wo, by omega, rfl⟩) de_int)).cast (decide_eq_false (by rw [hps]; omega))) (dw_or1 ((dt_cmp (dc_neI (de_call G.many_colourings (hr.mono (by decide)) (das_w (dw_name 3) (das_v ((de_sub (de_name 5) de_int).cast (?_ : _ = dI (m - 1))) das_nil)) ⟨n, r, m - 1, rfl, wo, by omega, rfl⟩) de_int)).cast ?_)))
      · show PyData.int _ = PyData.int _
        congr 1; omega
      · have e : ((m - 1 : Nat) : Int) = (m : Int) - 1 := by omega
        rw [e, hps, hv0]; rfl
    exact db_nil (law_d G T hr wo FA hne RD)
theorem tops_last (pre : List Int) (x : Int) : atI ((pre ++ [x]).map PyData.int) (-1) = some (.int x) := by
  have e : ixN ((pre ++ [x]).map PyData.int).length (-1) = some pre.length := by
    unfold ixN
    rw [List.length_map, List.length_append, List.length_singleton, if_neg (by decide), if_pos (by omega)]
    congr 1
    omega
  unfold atI
  rw [e, Option.bind_some, List.getElem?_map, List.getElem?_concat_length]; rfl
/-- colours read off, ways -/
theorem law_b (G : Gs w K mg base C) (T : Tp mg) (hr : Room 12 (A.deeper (PyProof.Rows.envOfC "law" (defScope s_law) s.heap.objs.size f cdv))) (wo : WebOk n r) (FA : Facts n r (ringsD n r)) {t : List Nat} {cs : List Int} (hm : leastOf n r = m :: t) (h1 : 1 ≤ m) (h6 : m ≤ 6) (hc : colouringOf n r m = some cs) (co : ColOk n r cs) (hcs : ∀ c ∈ cs, c < (m : Int)) (hn0 : 1 < m → colouringOf n r (m - 1) = none)
    (hmin : ∃ sg ∈ ringlessSigns n r, ∃ h, heightsOf n r sg = some h ∧ 1 + topOf h = m) (hmn : ∀ sg ∈ ringlessSigns n r, ∀ h, heightsOf n r sg = some h → (m : Int) ≤ 1 + topOf h) (hv1 : 1 ≤ valueAt (powersOf n r) m) (hv0 : valueAt (powersOf n r) ((m : Int) - 1) = 0) (RD : RowD ds) {y0 y6 y7 y8 y9 y10 y11 y12 y13 y14 y15 y16 y17 y18 : Sl} :
    DB (XL w K mg base f cdv A outer s H E) C ((defBody s_law).drop 5) [y0, .ml l ds, .v (.tuple [dI n, dRows r]), .web n r, .v (dSgs (ringlessSigns n r)), .v (dI m), y6, y7, y8, y9, y10, y11, y12, y13, y14, y15, y16, y17, y18] DL0 := by
  have nd := sc_law.nd
  have hlen : (ringlessSigns n r).length ≤ 1024 := Nat.le_trans (List.length_filter_le _ _) (allSigns_le wo.len)
  have hu : (A.deeper (PyProof.Rows.envOfC "law" (defScope s_law) s.heap.objs.size f cdv)).units + 65 < cLine := by have := hr.un; omega
  have hne : ringlessSigns n r ≠ [] := fun z => by obtain ⟨sg, h, _⟩ := hmin; rw [z] at h; cases h
  refine db_cons (ds_parN1 6 7 dn_nil de_int ?_ rfl nd)
  refine db_cons (ds_for (fun i env => ∃ x y, env = [y0, .ml l ds, .v (.tuple [dI n, dRows r]), .web n r, .v (dSgs (ringlessSigns n r)), .v (dI m), .mu ((tops n r ((ringlessSigns n r).take i)).map .int), .v (.int 0), x, y, y10, y11, y12, y13, y14, y15, y16, y17, y18]) PassesOwn.never rfl (di_list (de_name 4)) ⟨_, _, rfl⟩ ?_ ?_)
  · rintro i d env1 hd ⟨x, y, rfl⟩
    obtain ⟨sg, hsg, rfl⟩ := map_get hd
    have hmem := List.mem_of_getElem? hsg
    have rs := rl_of hmem
    obtain ⟨so, h, hh⟩ := rs
    obtain ⟨co', hsb⟩ := FA.col sg hmem h hh
    have HT := hts_of wo hh
    have hpos := wo.pos
    have hln := HT.len
    have hne' : h ≠ [] := fun z => by rw [z] at hln; simp at hln; omega
    have tk : tops n r ((ringlessSigns n r).take (i + 1)) = tops n r ((ringlessSigns n r).take i) ++ [1 + topOf h] := by
      unfold tops
      rw [List.take_add_one, hsg, List.map_append]
      show _ ++ [1 + topOf (hOf n r sg)] = _
      rw [hOf_some hh]
    have hlt : (tops n r ((ringlessSigns n r).take i)).length ≤ 1024 := by unfold tops; rw [List.length_map, List.length_take]; omega
    rw [tk]
    generalize tops n r ((ringlessSigns n r).take i) = pre at hlt
    refine ⟨_, _, dg_name 8 nd, ?_⟩
    refine db_cons (ds_set 9 (de_call G.read_off (hr.mono (by decide)) (das_w (dw_name 3) (das_v (de_name 8) das_nil)) ⟨n, r, sg, h, rfl, wo, so, hh, rfl⟩) ?_ nd)
    refine db_cons (ds_append 6 rfl (de_add de_int (de_maxT (i := topOf h) T rfl (by show (A.deeper _).units + 2 < _; omega) (de_name (d := dInts h) 9) (topOf_mem hne') topOf_le)) (by rw [List.length_map]; omega) ?_)
    refine db_cons (ds_if (k := false) ?_ (fun k => nomatch k) (fun _ => ?_))
    · refine DPW.dt (dw_or (k := false) (k' := false) (dt_val (de_call G.leads_round (hr.mono (by decide)) (das_w (dw_name 3) (das_v (de_name 8) das_nil)) ⟨n, r, sg, rfl, wo, ⟨so, h, hh⟩, rfl⟩)) (dw_or (k := false) (k' := false) (dt_cmp (dc_ne hr.units (de_call G.signs_of (hr.mono (by decide)) (das_w (dw_name 3) (das_v (de_name 9) das_nil)) ⟨n, r, h, rfl, wo, co', rfl⟩).dr (de_name 8).dr (lay_dInts _).sh (lay_dInts _).sh (by rw [eqv_dInts, hsb, decide_eq_true rfl]; rfl)))
        (dw_or1 (dt_cmp (dc_notInL hu (de_name 8).dr (de_call G.signs_with (hr.mono (by decide)) (das_w (dw_name 3) (das_v (de_name 9) das_nil)) ⟨n, r, h, rfl, wo, co', rfl⟩).dr (lay_dInts sg).sh (lay_dSgs _).sh ?_)))))
      have hin : sg ∈ (ringlessSigns n r).filter (fun sg => decide (heightsOf n r sg = some h)) := List.mem_filter.mpr ⟨hmem, decide_eq_true hh⟩
      have hany := any_eqv clean_dInts dInts_inj ((ringlessSigns n r).filter fun sg => decide (heightsOf n r sg = some h)) sg
      rw [@decide_eq_true _ (_) hin] at hany
      rw [hany]; rfl
    refine db_nil (db_cons (ds_if (k := false) ((dt_cmp (dc_neI (de_len T (de_call G.longest (hr.mono (by decide)) (das_w (dw_name 3) (das_v (de_name 8) das_nil)) ⟨n, r, sg, h, rfl, wo, so, hh, rfl⟩).dq) (de_ixL (d := .int (1 + topOf h)) (dl_name 6) (de_neg de_int) ?_))).cast ?_) (fun k => nomatch k) (fun _ => db_nil (db_nil ⟨.v (dInts sg), .v (dInts h), ?_⟩))))
    · have := tops_last pre (1 + topOf h)
      rw [List.map_append] at this
      exact this
    · rw [List.length_map]
      have hidx : h.idxOf (topOf h) < h.length := List.idxOf_lt_length_iff.mpr (topOf_mem hne')
      have hget : h[h.idxOf (topOf h)]? = some (topOf h) := by rw [List.getElem?_eq_getElem hidx, List.getElem_idxOf]
      have htop : gt h (h.idxOf (topOf h)) = topOf h := by have := gt_getElem hidx; rw [hget] at this; exact (Option.some.inj this).symm
      have hnn := HT.nn (h.idxOf (topOf h))
      have hwl := wayFrom_len HT (topOf h).toNat (h.idxOf (topOf h)) [] (by omega)
      have e : ((wayOf n r sg h).length : Int) = 1 + topOf h := by
        show ((wayFrom (arrowsOf r sg) h (topOf h).toNat [h.idxOf (topOf h)]).length : Int) = _
        rw [hwl]; simp; omega
      rw [decide_eq_true e]; rfl
    · rw [List.map_append]; rfl
  · rintro env1 ⟨x, y, rfl⟩
    rw [List.take_of_length_le (by rw [List.length_map]; exact Nat.le_refl _)]
    refine db_cons (ds_if (k := false) ?_ (fun k => nomatch k) (fun _ => ?_))
    · refine DPW.dt (dw_or (k := false) (k' := false) ((dt_cmp (dc_neI (de_min (ns := tops n r (ringlessSigns n r)) (i := (m : Int)) T rfl (dl_name 6) ?_ ?_) (de_name 5))).cast (by rw [decide_eq_true rfl]; rfl)) (dw_or1 (DPW.dt ?_)))
      · obtain ⟨sg, h2, h, hh, e⟩ := hmin
        unfold tops
        exact List.mem_map.mpr ⟨sg, h2, by rw [hOf_some hh]; exact e⟩
      · intro z hz
        unfold tops at hz
        obtain ⟨sg, h2, rfl⟩ := List.mem_map.mp hz
        obtain ⟨_, h, hh⟩ := rl_of h2
        rw [hOf_some hh]
        exact hmn sg h2 h hh
      · by_cases q : 1 < m
        · refine dw_and' ((dt_cmp (dc_gt (de_name 5) de_int)).cast (decide_eq_true (by omega))) (dw_and1 ((dt_cmp (dc_notN (de_call G.colouring (hr.mono (by decide)) (das_w (dw_name 3) (das_v ((de_sub (de_name 5) de_int).cast (?_ : _ = dI (m - 1))) das_nil)) ⟨n, r, m - 1, rfl, wo, by omega, by omega, rfl⟩))).cast ?_))
          · show PyData.int _ = PyData.int _
            congr 1; omega
          · rw [hn0 q]; rfl
        · exact dw_andF ((dt_cmp (dc_gt (de_name 5) de_int)).cast (decide_eq_false (by omega)))
    exact db_nil (law_c G T hr wo FA hm h1 h6 hc co hcs hv1 hv0 hne RD)
/-- the web, its signings -/
theorem law_a (G : Gs w K mg base C) (T : Tp mg) (HF : ∀ n r, WebOk n r → Srt r → Facts n r (ringsD n r)) (hr : Room 12 (A.deeper (PyProof.Rows.envOfC "law" (defScope s_law) s.heap.objs.size f cdv))) (RD : RowD ds) {y0 y2 y3 y4 y5 y6 y7 y8 y9 y10 y11 y12 y13 y14 y15 y16 y17 y18 : Sl} :
    DB (XL w K mg base f cdv A outer s H E) C ((defBody s_law).drop 1) [y0, .ml l ds, y2, y3, y4, y5, y6, y7, y8, y9, y10, y11, y12, y13, y14, y15, y16, y17, y18] DL0 := by
  have nd := sc_law.nd
  refine db_cons (ds_setR (s := 1) (t := 2) rfl RD (der_callR G.wide (hr.mono (by decide)) (by show 1 < 19; decide) (der_ix (xs := [.int 5, .int 5, .int 6]) (fun ds => (dn_lst (da_cons de_int (da_cons de_int (da_cons de_int da_nil)))).de) ((der_call G.pick (hr.mono (by decide)) (by show 1 < 19; decide) (fun ds => das_v de_int das_nil) ⟨3, rfl, by decide, by decide⟩).imp ?_)) (fun ds => de_int (i := 7)) ?_) (fun d1 ds1 ⟨d0, _, n, r, e, wo, so⟩ R1 => ?_) nd)
  · rintro d ⟨m, k, e1, e2, h1, h2⟩
    cases e1
    exact ⟨k.toNat, by rw [e2]; unfold dI; congr 1; omega, by show k.toNat < 3; omega⟩
  · intro d hd
    rcases List.mem_cons.mp hd with rfl | hd
    · exact ⟨5, 7, rfl, by decide, by decide, by decide⟩
    · rcases List.mem_cons.mp hd with rfl | hd
      · exact ⟨5, 7, rfl, by decide, by decide, by decide⟩
      · rw [List.mem_singleton.mp hd]; exact ⟨6, 7, rfl, by decide, by decide, by decide⟩
  subst e
  show DB _ C _ [y0, .ml l ds1, .v (.tuple [dI n, dRows r]), y3, y4, y5, y6, y7, y8, y9, y10, y11, y12, y13, y14, y15, y16, y17, y18] _
  have FA := HF n r wo so
  obtain ⟨m, t, cs, hm, h1, h6, hc, co, hcs, hn0, hmin, hmn, hv1, hv0⟩ := FA.least
  refine db_cons (ds_setW 3 (dw_call G.made (hr.mono (by decide)) (das_v (de_name 2) das_nil) wo so) ?_ nd)
  refine db_cons (ds_par 4 5 (de_call G.signings (hr.mono (by decide)) (das_w (dw_name 3) das_nil) ⟨n, r, rfl, wo, rfl⟩) (de_call G.least (hr.mono (by decide)) (das_w (dw_name 3) das_nil) ⟨n, r, m, t, rfl, wo, hm, rfl⟩) ?_ rfl nd)
  refine db_cons (ds_if (k := false) ?_ (fun k => nomatch k) (fun _ => ?_))
  · refine DPW.dt (dw_or (k := false) (k' := false) ((dt_cmp (dc_neI (de_len T (de_name (d := dSgs (ringlessSigns n r)) 4).dq') (de_call G.many_signings (hr.mono (by decide)) (das_w (dw_name 3) das_nil) ⟨n, r, rfl, wo, rfl⟩))).cast (by rw [List.length_map, FA.count, decide_eq_true rfl]; rfl)) (dw_or1 ((dt_cmp (dc_isN (de_call G.colouring (hr.mono (by decide)) (das_w (dw_name 3) (das_v (de_name 5) das_nil)) ⟨n, r, m, rfl, wo, h1, h6, rfl⟩))).cast (by rw [hc]; rfl))))
  exact db_nil (law_b G T hr wo FA hm h1 h6 hc co hcs hn0 hmin hmn hv1 hv0 R1)
end
theorem ok_law {g : Addr} {gd : FuncData} (G : Gs w K mg base C) (T : Tp mg) (HF : ∀ n r, WebOk n r → Srt r → Facts n r (ringsD n r)) (GD : FnOk PP w K mg base CX0 1 g gd ["_law_script"] (spDraws K)) (mD : mg "_law_draws" = some (.ref g)) (kD : PySem.W.keepIn K (.ref g) = true) (bD : Binds K gd ["_law_script"] []) (F : Fun K "law" "law" s_law f fd) : FnOk PP w K mg base CX0 13 f fd ["_law_script"] (spLaw K) := by
  refine F.ok sc_law (fun vs H Q E h => ?_) (fun cdv A outer s H vs Q E hr h => ?_)
  · obtain ⟨a, ns, rfl, _⟩ := h; rfl
  · obtain ⟨a, ns, rfl, hS, _, q⟩ := h
    refine ⟨_, pss_cons (ps_set (i := 1) sc_law.nd rfl (Or.inl rfl) (pe_call GD (hr.mono (by decide)) rfl mD kD bD .nil pass0 (pa_cons (pv 0) pa_nil))) (wSs_pss _), ?_⟩
    refine ⟨_, rfl, a, ns, rfl, hS, fun b p hb hp => ?_⟩
    have nbp : b ≠ p := fun z => by rw [← z, upd_same] at hp; cases hp
    let G0 : Hp := upd (fun _ => none) b (.lst (ns.map V.int))
    let H1 : Hp := upd (upd H b (.lst (ns.map V.int))) p (.lst [.ref b, .int 0, .int 0, .int 7])
    have sm : Same G0 (del H1 p) := fun c o z => by
      by_cases e : c = b
      · subst e
        have z : some (HO.lst (ns.map V.int)) = some o := by rw [← z]; exact upd_same.symm
        cases z
        rw [del_ne nbp]
        show upd _ p _ c = _
        rw [upd_ne nbp, upd_same]
      · have z : upd (fun _ => none) b (HO.lst (ns.map V.int)) c = some o := z
        rw [upd_ne e] at z; cases z
    have Sn : St C G0 (del H1 p) G0 (del H1 p) ((L2.start ["_law_script", "_law_row", "_law_w", "_law_web_here", "_law_every", "_law_fewest", "_law_tops", "_law_total", "_law_signs", "_law_told_of", "_law_found", "_law_k", "_law_one", "_law_other", "_law_hours", "_law_low", "_law_apart", "_law_does", "_law_value"] [.ref a]).set 1 (some (.ref p))) (List.replicate 19 .no) := by
      have nm : ∀ i, ¬ Mu (List.replicate 19 Sl.no) i := fun i ⟨e, h1, h2⟩ => by
        rw [List.getElem?_replicate] at h1
        split at h1
        · cases h1; cases h2
        · cases h1
      refine ⟨Gr.refl sm, rfl, fun i e h => ?_, fun i j a _ m => absurd m (nm i), fun i a m => absurd m (nm i)⟩
      rw [List.getElem?_replicate] at h
      split at h
      · cases h; trivial
      · cases h
    have hG : G0 p = none := by show upd _ b _ p = none; rw [upd_ne (Ne.symm nbp)]
    have S1 := Sn.add (i := 1) (a := p) (H := H1) (xs := [.ref b, .int 0, .int 0, .int 7]) (ds := [.list (ns.map .int), .int 0, .int 0, .int 7]) rfl rfl upd_same hG del_same (.cons (.lst upd_same (RpAll.of_ints ns)) (.cons (.int _) (.cons (.int _) (.cons (.int _) .nil))))
    refine (law_a (G := G) (T := T) (HF := HF) (hr := hr) (l := p) (ds := [.list (ns.map .int), .int 0, .int 0, .int 7]) ⟨ns, 0, 0, 7, rfl, by decide⟩).run S1 _ ⟨fun _ _ _ _ _ _ z => z.elim, fun G' H' σ' env' v d _ S' r e => ?_, fun _ _ _ _ _ _ z => z.elim, fun _ _ _ _ _ _ z => z.elim, fun _ _ _ _ z => z.elim⟩
    have e : d = .bool true := e
    subst e
    cases r
    exact q H'
end
end TD
namespace TD
open PySem L2 TS
section
variable {w : World} {K : PySem.W.Frag} {mg : Str → Option Value} {base : Heap} {f : Addr} {fd : FuncData}
theorem fun_of {x qual : Str} {st : Stmt} (F : FunD K x qual (defArgs st) (defBody st) (defScope st) [] [] f fd) : Fun K x qual st f fd := by
  obtain ⟨⟨oc, od, dV, kV, doc, pm, an, cdv, ct, osl, e, lk, hc, hd, _⟩, kp⟩ := F
  rcases hd with ⟨_, rfl⟩ | ⟨h, _⟩
  · exact ⟨⟨oc, od, kV, doc, pm, an, cdv, ct, osl, e, lk, hc⟩, kp⟩
  · exact absurd rfl h
theorem all_ok (HF : ∀ n r, WebOk n r → Srt r → Facts n r (ringsD n r)) {h : Heap} (X : K.In h) (G : h.Ns mainGlobals mg) (hfa : mg ("law" : Str) = some (.ref f)) (c : He.SaysD faL fnL K) :
    ∃ fd : FuncData, (∀ (s : Shared) (v : Value), BindsTo s fd ⟨[v], []⟩ [("_law_script", v)]) ∧ ∀ base : Heap, K.In base → base.Ns mainGlobals mg → FnOk PP w K mg base CX0 13 f fd ["_law_script"] (spLaw K) := by
  let C : Addr := He.ga K "Web"
  have TW := He.cls_ok (c.fact 0 (f := .cls "Web") rfl)
  have MK : Mk K C (He.ma K C "__init__") := He.mkr_ok (c.fact 1 (f := .mkr "Web") rfl)
  have W : Wb K C := ⟨TW, He.noat_ok (c.fact 2 (f := .noat "Web" "many") rfl), He.noat_ok (c.fact 3 (f := .noat "Web" "rows") rfl)⟩
  have m_Web : mg "Web" = some (.ref C) := He.glo_ok X G (c.fact 4 (f := .glo "Web") rfl)
  obtain ⟨t_MOST_PLACES, M_MOST_PLACES⟩ := He.int_ok X G (c.fact 5 (f := .int "MOST_PLACES" 6) rfl)
  obtain ⟨t_MOST_TIES, M_MOST_TIES⟩ := He.int_ok X G (c.fact 6 (f := .int "MOST_TIES" 10) rfl)
  obtain ⟨t_MOST_COLOUR, M_MOST_COLOUR⟩ := He.int_ok X G (c.fact 7 (f := .int "MOST_COLOUR" 20) rfl)
  obtain ⟨t_MOST_HOURS, M_MOST_HOURS⟩ := He.int_ok X G (c.fact 8 (f := .int "MOST_HOURS" 12) rfl)
  obtain ⟨t_COLOURS, M_COLOURS⟩ := He.str_ok X G (c.fact 9 (f := .str "COLOURS" "colours") rfl)
  have T : Tp mg := ⟨He.free_ok X G (c.fact 10 (f := .free "len") rfl), He.free_ok X G (c.fact 11 (f := .free "all") rfl), He.free_ok X G (c.fact 12 (f := .free "any") rfl), He.free_ok X G (c.fact 13 (f := .free "max") rfl), He.free_ok X G (c.fact 14 (f := .free "min") rfl), He.free_ok X G (c.fact 15 (f := .free "sorted") rfl), He.free_ok X G (c.fact 16 (f := .free "zip") rfl), He.free_ok X G (c.fact 17 (f := .free "range") rfl), He.free_ok X G (c.fact 18 (f := .free "enumerate") rfl), He.free_ok X G (c.fact 19 (f := .free "isinstance") rfl), He.free_ok X G (c.fact 20 (f := .free "abs") rfl), He.free_ok X G (c.fact 21 (f := .free "int") rfl), He.free_ok X G (c.fact 22 (f := .free "bool") rfl), He.free_ok X G (c.fact 23 (f := .free "str") rfl), He.free_ok X G (c.fact 24 (f := .free "list") rfl), He.free_ok X G (c.fact 25 (f := .free "tuple") rfl)⟩
  obtain ⟨fd_is_from, D_is_from⟩ := c.def_ 0 (d := d_is_from) rfl
  have F_is_from : Fun K "is_from" "is_from" s_is_from (He.ga K "is_from") fd_is_from := fun_of D_is_from
  have m_is_from : mg "is_from" = some (.ref (He.ga K "is_from")) := He.glo_ok X G (c.fact 26 (f := .glo "is_from") rfl)
  have b_is_from : Binds K fd_is_from ["value", "low", "high"] [] := F_is_from.binds fun _ _ _ _ _ _ us hl => match us, hl with | [_, _, _], _ => rfl
  obtain ⟨fd_arrows_of, D_arrows_of⟩ := c.def_ 1 (d := d_arrows_of) rfl
  have F_arrows_of : Fun K "arrows_of" "arrows_of" s_arrows_of (He.ga K "arrows_of") fd_arrows_of := fun_of D_arrows_of
  have m_arrows_of : mg "arrows_of" = some (.ref (He.ga K "arrows_of")) := He.glo_ok X G (c.fact 27 (f := .glo "arrows_of") rfl)
  have b_arrows_of : Binds K fd_arrows_of ["web", "signs"] [] := F_arrows_of.binds fun _ _ _ _ _ _ us hl => match us, hl with | [_, _], _ => rfl
  obtain ⟨fd_heights_of, D_heights_of⟩ := c.def_ 2 (d := d_heights_of) rfl
  have F_heights_of : Fun K "heights_of" "heights_of" s_heights_of (He.ga K "heights_of") fd_heights_of := fun_of D_heights_of
  have m_heights_of : mg "heights_of" = some (.ref (He.ga K "heights_of")) := He.glo_ok X G (c.fact 28 (f := .glo "heights_of") rfl)
  have b_heights_of : Binds K fd_heights_of ["web", "signs"] [] := F_heights_of.binds fun _ _ _ _ _ _ us hl => match us, hl with | [_, _], _ => rfl
  obtain ⟨fd_is_ringless, D_is_ringless⟩ := c.def_ 3 (d := d_is_ringless) rfl
  have F_is_ringless : Fun K "is_ringless" "is_ringless" s_is_ringless (He.ga K "is_ringless") fd_is_ringless := fun_of D_is_ringless
  have m_is_ringless : mg "is_ringless" = some (.ref (He.ga K "is_ringless")) := He.glo_ok X G (c.fact 29 (f := .glo "is_ringless") rfl)
  have b_is_ringless : Binds K fd_is_ringless ["web", "signs"] [] := F_is_ringless.binds fun _ _ _ _ _ _ us hl => match us, hl with | [_, _], _ => rfl
  obtain ⟨fd_are_signs, D_are_signs⟩ := c.def_ 4 (d := d_are_signs) rfl
  have F_are_signs : Fun K "are_signs" "are_signs" s_are_signs (He.ga K "are_signs") fd_are_signs := fun_of D_are_signs
  have m_are_signs : mg "are_signs" = some (.ref (He.ga K "are_signs")) := He.glo_ok X G (c.fact 30 (f := .glo "are_signs") rfl)
  have b_are_signs : Binds K fd_are_signs ["web", "value"] [] := F_are_signs.binds fun _ _ _ _ _ _ us hl => match us, hl with | [_, _], _ => rfl
  obtain ⟨fd_check_signs, D_check_signs⟩ := c.def_ 5 (d := d_check_signs) rfl
  have F_check_signs : Fun K "check_signs" "check_signs" s_check_signs (He.ga K "check_signs") fd_check_signs := fun_of D_check_signs
  have m_check_signs : mg "check_signs" = some (.ref (He.ga K "check_signs")) := He.glo_ok X G (c.fact 31 (f := .glo "check_signs") rfl)
  have b_check_signs : Binds K fd_check_signs ["web", "value"] [] := F_check_signs.binds fun _ _ _ _ _ _ us hl => match us, hl with | [_, _], _ => rfl
  obtain ⟨fd_check_ringless, D_check_ringless⟩ := c.def_ 6 (d := d_check_ringless) rfl
  have F_check_ringless : Fun K "check_ringless" "check_ringless" s_check_ringless (He.ga K "check_ringless") fd_check_ringless := fun_of D_check_ringless
  have m_check_ringless : mg "check_ringless" = some (.ref (He.ga K "check_ringless")) := He.glo_ok X G (c.fact 32 (f := .glo "check_ringless") rfl)
  have b_check_ringless : Binds K fd_check_ringless ["web", "value"] [] := F_check_ringless.binds fun _ _ _ _ _ _ us hl => match us, hl with | [_, _], _ => rfl
  obtain ⟨fd_leads_round, D_leads_round⟩ := c.def_ 7 (d := d_leads_round) rfl
  have F_leads_round : Fun K "leads_round" "leads_round" s_leads_round (He.ga K "leads_round") fd_leads_round := fun_of D_leads_round
  have m_leads_round : mg "leads_round" = some (.ref (He.ga K "leads_round")) := He.glo_ok X G (c.fact 33 (f := .glo "leads_round") rfl)
  have b_leads_round : Binds K fd_leads_round ["web", "signs"] [] := F_leads_round.binds fun _ _ _ _ _ _ us hl => match us, hl with | [_, _], _ => rfl
  obtain ⟨fd_read_off, D_read_off⟩ := c.def_ 8 (d := d_read_off) rfl
  have F_read_off : Fun K "read_off" "read_off" s_read_off (He.ga K "read_off") fd_read_off := fun_of D_read_off
  have m_read_off : mg "read_off" = some (.ref (He.ga K "read_off")) := He.glo_ok X G (c.fact 34 (f := .glo "read_off") rfl)
  have b_read_off : Binds K fd_read_off ["web", "signs"] [] := F_read_off.binds fun _ _ _ _ _ _ us hl => match us, hl with | [_, _], _ => rfl
  obtain ⟨fd_are_colours, D_are_colours⟩ := c.def_ 9 (d := d_are_colours) rfl
  have F_are_colours : Fun K "are_colours" "are_colours" s_are_colours (He.ga K "are_colours") fd_are_colours := fun_of D_are_colours
  have m_are_colours : mg "are_colours" = some (.ref (He.ga K "are_colours")) := He.glo_ok X G (c.fact 35 (f := .glo "are_colours") rfl)
  have b_are_colours : Binds K fd_are_colours ["web", "value"] [] := F_are_colours.binds fun _ _ _ _ _ _ us hl => match us, hl with | [_, _], _ => rfl
  obtain ⟨fd_check_colours, D_check_colours⟩ := c.def_ 10 (d := d_check_colours) rfl
  have F_check_colours : Fun K "check_colours" "check_colours" s_check_colours (He.ga K "check_colours") fd_check_colours := fun_of D_check_colours
  have m_check_colours : mg "check_colours" = some (.ref (He.ga K "check_colours")) := He.glo_ok X G (c.fact 36 (f := .glo "check_colours") rfl)
  have b_check_colours : Binds K fd_check_colours ["web", "value"] [] := F_check_colours.binds fun _ _ _ _ _ _ us hl => match us, hl with | [_, _], _ => rfl
  obtain ⟨fd_signs_by, D_signs_by⟩ := c.def_ 11 (d := d_signs_by) rfl
  have F_signs_by : Fun K "signs_by" "signs_by" s_signs_by (He.ga K "signs_by") fd_signs_by := fun_of D_signs_by
  have m_signs_by : mg "signs_by" = some (.ref (He.ga K "signs_by")) := He.glo_ok X G (c.fact 37 (f := .glo "signs_by") rfl)
  have b_signs_by : Binds K fd_signs_by ["web", "colours"] [] := F_signs_by.binds fun _ _ _ _ _ _ us hl => match us, hl with | [_, _], _ => rfl
  obtain ⟨fd_signs_of, D_signs_of⟩ := c.def_ 12 (d := d_signs_of) rfl
  have F_signs_of : Fun K "signs_of" "signs_of" s_signs_of (He.ga K "signs_of") fd_signs_of := fun_of D_signs_of
  have m_signs_of : mg "signs_of" = some (.ref (He.ga K "signs_of")) := He.glo_ok X G (c.fact 38 (f := .glo "signs_of") rfl)
  have b_signs_of : Binds K fd_signs_of ["web", "colours"] [] := F_signs_of.binds fun _ _ _ _ _ _ us hl => match us, hl with | [_, _], _ => rfl
  obtain ⟨fd_all_signs, D_all_signs⟩ := c.def_ 13 (d := d_all_signs) rfl
  have F_all_signs : Fun K "all_signs" "all_signs" s_all_signs (He.ga K "all_signs") fd_all_signs := fun_of D_all_signs
  have m_all_signs : mg "all_signs" = some (.ref (He.ga K "all_signs")) := He.glo_ok X G (c.fact 39 (f := .glo "all_signs") rfl)
  have b_all_signs : Binds K fd_all_signs ["many"] [] := F_all_signs.binds fun _ _ _ _ _ _ us hl => match us, hl with | [_], _ => rfl
  obtain ⟨fd_ringless_signs, D_ringless_signs⟩ := c.def_ 14 (d := d_ringless_signs) rfl
  have F_ringless_signs : Fun K "ringless_signs" "ringless_signs" s_ringless_signs (He.ga K "ringless_signs") fd_ringless_signs := fun_of D_ringless_signs
  have m_ringless_signs : mg "ringless_signs" = some (.ref (He.ga K "ringless_signs")) := He.glo_ok X G (c.fact 40 (f := .glo "ringless_signs") rfl)
  have b_ringless_signs : Binds K fd_ringless_signs ["web"] [] := F_ringless_signs.binds fun _ _ _ _ _ _ us hl => match us, hl with | [_], _ => rfl
  obtain ⟨fd_signings, D_signings⟩ := c.def_ 15 (d := d_signings) rfl
  have F_signings : Fun K "signings" "signings" s_signings (He.ga K "signings") fd_signings := fun_of D_signings
  have m_signings : mg "signings" = some (.ref (He.ga K "signings")) := He.glo_ok X G (c.fact 41 (f := .glo "signings") rfl)
  have b_signings : Binds K fd_signings ["web"] [] := F_signings.binds fun _ _ _ _ _ _ us hl => match us, hl with | [_], _ => rfl
  obtain ⟨fd_signs_with, D_signs_with⟩ := c.def_ 16 (d := d_signs_with) rfl
  have F_signs_with : Fun K "signs_with" "signs_with" s_signs_with (He.ga K "signs_with") fd_signs_with := fun_of D_signs_with
  have m_signs_with : mg "signs_with" = some (.ref (He.ga K "signs_with")) := He.glo_ok X G (c.fact 42 (f := .glo "signs_with") rfl)
  have b_signs_with : Binds K fd_signs_with ["web", "colours"] [] := F_signs_with.binds fun _ _ _ _ _ _ us hl => match us, hl with | [_, _], _ => rfl
  obtain ⟨fd_is_tie, D_is_tie⟩ := c.def_ 17 (d := d_is_tie) rfl
  have F_is_tie : Fun K "is_tie" "is_tie" s_is_tie (He.ga K "is_tie") fd_is_tie := fun_of D_is_tie
  have m_is_tie : mg "is_tie" = some (.ref (He.ga K "is_tie")) := He.glo_ok X G (c.fact 43 (f := .glo "is_tie") rfl)
  have b_is_tie : Binds K fd_is_tie ["places", "value"] [] := F_is_tie.binds fun _ _ _ _ _ _ us hl => match us, hl with | [_, _], _ => rfl
  obtain ⟨fd_neighbours, D_neighbours⟩ := c.def_ 18 (d := d_neighbours) rfl
  have F_neighbours : Fun K "neighbours" "neighbours" s_neighbours (He.ga K "neighbours") fd_neighbours := fun_of D_neighbours
  have m_neighbours : mg "neighbours" = some (.ref (He.ga K "neighbours")) := He.glo_ok X G (c.fact 44 (f := .glo "neighbours") rfl)
  have b_neighbours : Binds K fd_neighbours ["web", "place"] [] := F_neighbours.binds fun _ _ _ _ _ _ us hl => match us, hl with | [_, _], _ => rfl
  obtain ⟨fd_check_clock, D_check_clock⟩ := c.def_ 19 (d := d_check_clock) rfl
  have F_check_clock : Fun K "check_clock" "check_clock" s_check_clock (He.ga K "check_clock") fd_check_clock := fun_of D_check_clock
  have m_check_clock : mg "check_clock" = some (.ref (He.ga K "check_clock")) := He.glo_ok X G (c.fact 45 (f := .glo "check_clock") rfl)
  have b_check_clock : Binds K fd_check_clock ["hours", "apart"] [] := F_check_clock.binds fun _ _ _ _ _ _ us hl => match us, hl with | [_, _], _ => rfl
  obtain ⟨fd_check_few, D_check_few⟩ := c.def_ 20 (d := d_check_few) rfl
  have F_check_few : Fun K "check_few" "check_few" s_check_few (He.ga K "check_few") fd_check_few := fun_of D_check_few
  have m_check_few : mg "check_few" = some (.ref (He.ga K "check_few")) := He.glo_ok X G (c.fact 46 (f := .glo "check_few") rfl)
  have b_check_few : Binds K fd_check_few ["value"] [] := F_check_few.binds fun _ _ _ _ _ _ us hl => match us, hl with | [_], _ => rfl
  obtain ⟨fd_ways_on, D_ways_on⟩ := c.def_ 21 (d := d_ways_on) rfl
  have F_ways_on : Fun K "ways_on" "ways_on" s_ways_on (He.ga K "ways_on") fd_ways_on := fun_of D_ways_on
  have m_ways_on : mg "ways_on" = some (.ref (He.ga K "ways_on")) := He.glo_ok X G (c.fact 47 (f := .glo "ways_on") rfl)
  have b_ways_on : Binds K fd_ways_on ["web", "way"] [] := F_ways_on.binds fun _ _ _ _ _ _ us hl => match us, hl with | [_, _], _ => rfl
  obtain ⟨fd_rings_of, D_rings_of⟩ := c.def_ 22 (d := d_rings_of) rfl
  have F_rings_of : Fun K "rings_of" "rings_of" s_rings_of (He.ga K "rings_of") fd_rings_of := fun_of D_rings_of
  have m_rings_of : mg "rings_of" = some (.ref (He.ga K "rings_of")) := He.glo_ok X G (c.fact 48 (f := .glo "rings_of") rfl)
  have b_rings_of : Binds K fd_rings_of ["web"] [] := F_rings_of.binds fun _ _ _ _ _ _ us hl => match us, hl with | [_], _ => rfl
  obtain ⟨fd_forward, D_forward⟩ := c.def_ 23 (d := d_forward) rfl
  have F_forward : Fun K "forward" "forward" s_forward (He.ga K "forward") fd_forward := fun_of D_forward
  have m_forward : mg "forward" = some (.ref (He.ga K "forward")) := He.glo_ok X G (c.fact 49 (f := .glo "forward") rfl)
  have b_forward : Binds K fd_forward ["web", "signs", "ring"] [] := F_forward.binds fun _ _ _ _ _ _ us hl => match us, hl with | [_, _, _], _ => rfl
  obtain ⟨fd_both_ways, D_both_ways⟩ := c.def_ 24 (d := d_both_ways) rfl
  have F_both_ways : Fun K "both_ways" "both_ways" s_both_ways (He.ga K "both_ways") fd_both_ways := fun_of D_both_ways
  have m_both_ways : mg "both_ways" = some (.ref (He.ga K "both_ways")) := He.glo_ok X G (c.fact 50 (f := .glo "both_ways") rfl)
  have b_both_ways : Binds K fd_both_ways ["web", "signs"] [] := F_both_ways.binds fun _ _ _ _ _ _ us hl => match us, hl with | [_, _], _ => rfl
  obtain ⟨fd_reduced, D_reduced⟩ := c.def_ 25 (d := d_reduced) rfl
  have F_reduced : Fun K "reduced" "reduced" s_reduced (He.ga K "reduced") fd_reduced := fun_of D_reduced
  have m_reduced : mg "reduced" = some (.ref (He.ga K "reduced")) := He.glo_ok X G (c.fact 51 (f := .glo "reduced") rfl)
  have b_reduced : Binds K fd_reduced ["one", "other"] [] := F_reduced.binds fun _ _ _ _ _ _ us hl => match us, hl with | [_, _], _ => rfl
  obtain ⟨fd_strain_of, D_strain_of⟩ := c.def_ 26 (d := d_strain_of) rfl
  have F_strain_of : Fun K "strain_of" "strain_of" s_strain_of (He.ga K "strain_of") fd_strain_of := fun_of D_strain_of
  have m_strain_of : mg "strain_of" = some (.ref (He.ga K "strain_of")) := He.glo_ok X G (c.fact 52 (f := .glo "strain_of") rfl)
  have b_strain_of : Binds K fd_strain_of ["web", "signs"] [] := F_strain_of.binds fun _ _ _ _ _ _ us hl => match us, hl with | [_, _], _ => rfl
  obtain ⟨fd_strain, D_strain⟩ := c.def_ 27 (d := d_strain) rfl
  have F_strain : Fun K "strain" "strain" s_strain (He.ga K "strain") fd_strain := fun_of D_strain
  have m_strain : mg "strain" = some (.ref (He.ga K "strain")) := He.glo_ok X G (c.fact 53 (f := .glo "strain") rfl)
  have b_strain : Binds K fd_strain ["web", "signs"] [] := F_strain.binds fun _ _ _ _ _ _ us hl => match us, hl with | [_, _], _ => rfl
  obtain ⟨fd_least_strain, D_least_strain⟩ := c.def_ 28 (d := d_least_strain) rfl
  have F_least_strain : Fun K "least_strain" "least_strain" s_least_strain (He.ga K "least_strain") fd_least_strain := fun_of D_least_strain
  have m_least_strain : mg "least_strain" = some (.ref (He.ga K "least_strain")) := He.glo_ok X G (c.fact 54 (f := .glo "least_strain") rfl)
  have b_least_strain : Binds K fd_least_strain ["web"] [] := F_least_strain.binds fun _ _ _ _ _ _ us hl => match us, hl with | [_], _ => rfl
  obtain ⟨fd_least_clock, D_least_clock⟩ := c.def_ 29 (d := d_least_clock) rfl
  have F_least_clock : Fun K "least_clock" "least_clock" s_least_clock (He.ga K "least_clock") fd_least_clock := fun_of D_least_clock
  have m_least_clock : mg "least_clock" = some (.ref (He.ga K "least_clock")) := He.glo_ok X G (c.fact 55 (f := .glo "least_clock") rfl)
  have b_least_clock : Binds K fd_least_clock ["web"] [] := F_least_clock.binds fun _ _ _ _ _ _ us hl => match us, hl with | [_], _ => rfl
  obtain ⟨fd_are_times, D_are_times⟩ := c.def_ 30 (d := d_are_times) rfl
  have F_are_times : Fun K "are_times" "are_times" s_are_times (He.ga K "are_times") fd_are_times := fun_of D_are_times
  have m_are_times : mg "are_times" = some (.ref (He.ga K "are_times")) := He.glo_ok X G (c.fact 56 (f := .glo "are_times") rfl)
  have b_are_times : Binds K fd_are_times ["web", "hours", "apart", "value"] [] := F_are_times.binds fun _ _ _ _ _ _ us hl => match us, hl with | [_, _, _, _], _ => rfl
  obtain ⟨fd_is_timed, D_is_timed⟩ := c.def_ 31 (d := d_is_timed) rfl
  have F_is_timed : Fun K "is_timed" "is_timed" s_is_timed (He.ga K "is_timed") fd_is_timed := fun_of D_is_timed
  have m_is_timed : mg "is_timed" = some (.ref (He.ga K "is_timed")) := He.glo_ok X G (c.fact 57 (f := .glo "is_timed") rfl)
  have b_is_timed : Binds K fd_is_timed ["web", "hours", "apart", "value"] [] := F_is_timed.binds fun _ _ _ _ _ _ us hl => match us, hl with | [_, _, _, _], _ => rfl
  obtain ⟨fd_times_on, D_times_on⟩ := c.def_ 32 (d := d_times_on) rfl
  have F_times_on : Fun K "times_on" "times_on" s_times_on (He.ga K "times_on") fd_times_on := fun_of D_times_on
  have m_times_on : mg "times_on" = some (.ref (He.ga K "times_on")) := He.glo_ok X G (c.fact 58 (f := .glo "times_on") rfl)
  have b_times_on : Binds K fd_times_on ["web", "hours", "apart", "times"] [] := F_times_on.binds fun _ _ _ _ _ _ us hl => match us, hl with | [_, _, _, _], _ => rfl
  obtain ⟨fd_clock, D_clock⟩ := c.def_ 33 (d := d_clock) rfl
  have F_clock : Fun K "clock" "clock" s_clock (He.ga K "clock") fd_clock := fun_of D_clock
  have m_clock : mg "clock" = some (.ref (He.ga K "clock")) := He.glo_ok X G (c.fact 59 (f := .glo "clock") rfl)
  have b_clock : Binds K fd_clock ["web", "hours", "apart"] [] := F_clock.binds fun _ _ _ _ _ _ us hl => match us, hl with | [_, _, _], _ => rfl
  obtain ⟨fd_colour_on, D_colour_on⟩ := c.def_ 34 (d := d_colour_on) rfl
  have F_colour_on : Fun K "colour_on" "colour_on" s_colour_on (He.ga K "colour_on") fd_colour_on := fun_of D_colour_on
  have m_colour_on : mg "colour_on" = some (.ref (He.ga K "colour_on")) := He.glo_ok X G (c.fact 60 (f := .glo "colour_on") rfl)
  have b_colour_on : Binds K fd_colour_on ["web", "colours", "many"] [] := F_colour_on.binds fun _ _ _ _ _ _ us hl => match us, hl with | [_, _, _], _ => rfl
  obtain ⟨fd_colouring, D_colouring⟩ := c.def_ 35 (d := d_colouring) rfl
  have F_colouring : Fun K "colouring" "colouring" s_colouring (He.ga K "colouring") fd_colouring := fun_of D_colouring
  have m_colouring : mg "colouring" = some (.ref (He.ga K "colouring")) := He.glo_ok X G (c.fact 61 (f := .glo "colouring") rfl)
  have b_colouring : Binds K fd_colouring ["web", "many"] [] := F_colouring.binds fun _ _ _ _ _ _ us hl => match us, hl with | [_, _], _ => rfl
  obtain ⟨fd_least_of, D_least_of⟩ := c.def_ 36 (d := d_least_of) rfl
  have F_least_of : Fun K "least_of" "least_of" s_least_of (He.ga K "least_of") fd_least_of := fun_of D_least_of
  have m_least_of : mg "least_of" = some (.ref (He.ga K "least_of")) := He.glo_ok X G (c.fact 62 (f := .glo "least_of") rfl)
  have b_least_of : Binds K fd_least_of ["web"] [] := F_least_of.binds fun _ _ _ _ _ _ us hl => match us, hl with | [_], _ => rfl
  obtain ⟨fd_least, D_least⟩ := c.def_ 37 (d := d_least) rfl
  have F_least : Fun K "least" "least" s_least (He.ga K "least") fd_least := fun_of D_least
  have m_least : mg "least" = some (.ref (He.ga K "least")) := He.glo_ok X G (c.fact 63 (f := .glo "least") rfl)
  have b_least : Binds K fd_least ["web"] [] := F_least.binds fun _ _ _ _ _ _ us hl => match us, hl with | [_], _ => rfl
  obtain ⟨fd_paper, D_paper⟩ := c.def_ 38 (d := d_paper) rfl
  have F_paper : Fun K "paper" "paper" s_paper (He.ga K "paper") fd_paper := fun_of D_paper
  have m_paper : mg "paper" = some (.ref (He.ga K "paper")) := He.glo_ok X G (c.fact 64 (f := .glo "paper") rfl)
  have b_paper : Binds K fd_paper ["web", "many"] [] := F_paper.binds fun _ _ _ _ _ _ us hl => match us, hl with | [_, _], _ => rfl
  obtain ⟨fd_shows, D_shows⟩ := c.def_ 39 (d := d_shows) rfl
  have F_shows : Fun K "shows" "shows" s_shows (He.ga K "shows") fd_shows := fun_of D_shows
  have m_shows : mg "shows" = some (.ref (He.ga K "shows")) := He.glo_ok X G (c.fact 65 (f := .glo "shows") rfl)
  have b_shows : Binds K fd_shows ["web", "many", "value"] [] := F_shows.binds fun _ _ _ _ _ _ us hl => match us, hl with | [_, _, _], _ => rfl
  obtain ⟨fd_times_less, D_times_less⟩ := c.def_ 40 (d := d_times_less) rfl
  have F_times_less : Fun K "times_less" "times_less" s_times_less (He.ga K "times_less") fd_times_less := fun_of D_times_less
  have m_times_less : mg "times_less" = some (.ref (He.ga K "times_less")) := He.glo_ok X G (c.fact 66 (f := .glo "times_less") rfl)
  have b_times_less : Binds K fd_times_less ["powers", "number"] [] := F_times_less.binds fun _ _ _ _ _ _ us hl => match us, hl with | [_, _], _ => rfl
  obtain ⟨fd_value_at, D_value_at⟩ := c.def_ 41 (d := d_value_at) rfl
  have F_value_at : Fun K "value_at" "value_at" s_value_at (He.ga K "value_at") fd_value_at := fun_of D_value_at
  have m_value_at : mg "value_at" = some (.ref (He.ga K "value_at")) := He.glo_ok X G (c.fact 67 (f := .glo "value_at") rfl)
  have b_value_at : Binds K fd_value_at ["powers", "number"] [] := F_value_at.binds fun _ _ _ _ _ _ us hl => match us, hl with | [_, _], _ => rfl
  obtain ⟨fd_times_by, D_times_by⟩ := c.def_ 42 (d := d_times_by) rfl
  have F_times_by : Fun K "times_by" "times_by" s_times_by (He.ga K "times_by") fd_times_by := fun_of D_times_by
  have m_times_by : mg "times_by" = some (.ref (He.ga K "times_by")) := He.glo_ok X G (c.fact 68 (f := .glo "times_by") rfl)
  have b_times_by : Binds K fd_times_by ["web", "signs", "hours", "apart"] [] := F_times_by.binds fun _ _ _ _ _ _ us hl => match us, hl with | [_, _, _, _], _ => rfl
  obtain ⟨fd_lots_on, D_lots_on⟩ := c.def_ 43 (d := d_lots_on) rfl
  have F_lots_on : Fun K "lots_on" "lots_on" s_lots_on (He.ga K "lots_on") fd_lots_on := fun_of D_lots_on
  have m_lots_on : mg "lots_on" = some (.ref (He.ga K "lots_on")) := He.glo_ok X G (c.fact 69 (f := .glo "lots_on") rfl)
  have b_lots_on : Binds K fd_lots_on ["web", "lots", "place"] [] := F_lots_on.binds fun _ _ _ _ _ _ us hl => match us, hl with | [_, _, _], _ => rfl
  obtain ⟨fd_powers_of, D_powers_of⟩ := c.def_ 44 (d := d_powers_of) rfl
  have F_powers_of : Fun K "powers_of" "powers_of" s_powers_of (He.ga K "powers_of") fd_powers_of := fun_of D_powers_of
  have m_powers_of : mg "powers_of" = some (.ref (He.ga K "powers_of")) := He.glo_ok X G (c.fact 70 (f := .glo "powers_of") rfl)
  have b_powers_of : Binds K fd_powers_of ["web"] [] := F_powers_of.binds fun _ _ _ _ _ _ us hl => match us, hl with | [_], _ => rfl
  obtain ⟨fd_polynomial, D_polynomial⟩ := c.def_ 45 (d := d_polynomial) rfl
  have F_polynomial : Fun K "polynomial" "polynomial" s_polynomial (He.ga K "polynomial") fd_polynomial := fun_of D_polynomial
  have m_polynomial : mg "polynomial" = some (.ref (He.ga K "polynomial")) := He.glo_ok X G (c.fact 71 (f := .glo "polynomial") rfl)
  have b_polynomial : Binds K fd_polynomial ["web"] [] := F_polynomial.binds fun _ _ _ _ _ _ us hl => match us, hl with | [_], _ => rfl
  obtain ⟨fd_many_colourings, D_many_colourings⟩ := c.def_ 46 (d := d_many_colourings) rfl
  have F_many_colourings : Fun K "many_colourings" "many_colourings" s_many_colourings (He.ga K "many_colourings") fd_many_colourings := fun_of D_many_colourings
  have m_many_colourings : mg "many_colourings" = some (.ref (He.ga K "many_colourings")) := He.glo_ok X G (c.fact 72 (f := .glo "many_colourings") rfl)
  have b_many_colourings : Binds K fd_many_colourings ["web", "many"] [] := F_many_colourings.binds fun _ _ _ _ _ _ us hl => match us, hl with | [_, _], _ => rfl
  obtain ⟨fd_many_signings, D_many_signings⟩ := c.def_ 47 (d := d_many_signings) rfl
  have F_many_signings : Fun K "many_signings" "many_signings" s_many_signings (He.ga K "many_signings") fd_many_signings := fun_of D_many_signings
  have m_many_signings : mg "many_signings" = some (.ref (He.ga K "many_signings")) := He.glo_ok X G (c.fact 73 (f := .glo "many_signings") rfl)
  have b_many_signings : Binds K fd_many_signings ["web"] [] := F_many_signings.binds fun _ _ _ _ _ _ us hl => match us, hl with | [_], _ => rfl
  obtain ⟨fd_can_turn, D_can_turn⟩ := c.def_ 48 (d := d_can_turn) rfl
  have F_can_turn : Fun K "can_turn" "can_turn" s_can_turn (He.ga K "can_turn") fd_can_turn := fun_of D_can_turn
  have m_can_turn : mg "can_turn" = some (.ref (He.ga K "can_turn")) := He.glo_ok X G (c.fact 74 (f := .glo "can_turn") rfl)
  have b_can_turn : Binds K fd_can_turn ["web", "signs", "place"] [] := F_can_turn.binds fun _ _ _ _ _ _ us hl => match us, hl with | [_, _, _], _ => rfl
  obtain ⟨fd_turned_at, D_turned_at⟩ := c.def_ 49 (d := d_turned_at) rfl
  have F_turned_at : Fun K "turned_at" "turned_at" s_turned_at (He.ga K "turned_at") fd_turned_at := fun_of D_turned_at
  have m_turned_at : mg "turned_at" = some (.ref (He.ga K "turned_at")) := He.glo_ok X G (c.fact 75 (f := .glo "turned_at") rfl)
  have b_turned_at : Binds K fd_turned_at ["web", "signs", "place"] [] := F_turned_at.binds fun _ _ _ _ _ _ us hl => match us, hl with | [_, _, _], _ => rfl
  obtain ⟨fd_turned, D_turned⟩ := c.def_ 50 (d := d_turned) rfl
  have F_turned : Fun K "turned" "turned" s_turned (He.ga K "turned") fd_turned := fun_of D_turned
  have m_turned : mg "turned" = some (.ref (He.ga K "turned")) := He.glo_ok X G (c.fact 76 (f := .glo "turned") rfl)
  have b_turned : Binds K fd_turned ["web", "signs", "place"] [] := F_turned.binds fun _ _ _ _ _ _ us hl => match us, hl with | [_, _, _], _ => rfl
  obtain ⟨fd_ring_apart, D_ring_apart⟩ := c.def_ 51 (d := d_ring_apart) rfl
  have F_ring_apart : Fun K "ring_apart" "ring_apart" s_ring_apart (He.ga K "ring_apart") fd_ring_apart := fun_of D_ring_apart
  have m_ring_apart : mg "ring_apart" = some (.ref (He.ga K "ring_apart")) := He.glo_ok X G (c.fact 77 (f := .glo "ring_apart") rfl)
  have b_ring_apart : Binds K fd_ring_apart ["web", "one", "other"] [] := F_ring_apart.binds fun _ _ _ _ _ _ us hl => match us, hl with | [_, _, _], _ => rfl
  obtain ⟨fd_rows_from, D_rows_from⟩ := c.def_ 52 (d := d_rows_from) rfl
  have F_rows_from : Fun K "rows_from" "rows_from" s_rows_from (He.ga K "rows_from") fd_rows_from := fun_of D_rows_from
  have m_rows_from : mg "rows_from" = some (.ref (He.ga K "rows_from")) := He.glo_ok X G (c.fact 78 (f := .glo "rows_from") rfl)
  have b_rows_from : Binds K fd_rows_from ["web", "signs"] [] := F_rows_from.binds fun _ _ _ _ _ _ us hl => match us, hl with | [_, _], _ => rfl
  obtain ⟨fd_turns, D_turns⟩ := c.def_ 53 (d := d_turns) rfl
  have F_turns : Fun K "turns" "turns" s_turns (He.ga K "turns") fd_turns := fun_of D_turns
  have m_turns : mg "turns" = some (.ref (He.ga K "turns")) := He.glo_ok X G (c.fact 79 (f := .glo "turns") rfl)
  have b_turns : Binds K fd_turns ["web", "one", "other"] [] := F_turns.binds fun _ _ _ _ _ _ us hl => match us, hl with | [_, _, _], _ => rfl
  obtain ⟨fd_all_turned, D_all_turned⟩ := c.def_ 54 (d := d_all_turned) rfl
  have F_all_turned : Fun K "all_turned" "all_turned" s_all_turned (He.ga K "all_turned") fd_all_turned := fun_of D_all_turned
  have m_all_turned : mg "all_turned" = some (.ref (He.ga K "all_turned")) := He.glo_ok X G (c.fact 80 (f := .glo "all_turned") rfl)
  have b_all_turned : Binds K fd_all_turned ["web", "signs"] [] := F_all_turned.binds fun _ _ _ _ _ _ us hl => match us, hl with | [_, _], _ => rfl
  obtain ⟨fd_way_of, D_way_of⟩ := c.def_ 55 (d := d_way_of) rfl
  have F_way_of : Fun K "way_of" "way_of" s_way_of (He.ga K "way_of") fd_way_of := fun_of D_way_of
  have m_way_of : mg "way_of" = some (.ref (He.ga K "way_of")) := He.glo_ok X G (c.fact 81 (f := .glo "way_of") rfl)
  have b_way_of : Binds K fd_way_of ["web", "signs"] [] := F_way_of.binds fun _ _ _ _ _ _ us hl => match us, hl with | [_, _], _ => rfl
  obtain ⟨fd_longest, D_longest⟩ := c.def_ 56 (d := d_longest) rfl
  have F_longest : Fun K "longest" "longest" s_longest (He.ga K "longest") fd_longest := fun_of D_longest
  have m_longest : mg "longest" = some (.ref (He.ga K "longest")) := He.glo_ok X G (c.fact 82 (f := .glo "longest") rfl)
  have b_longest : Binds K fd_longest ["web", "signs"] [] := F_longest.binds fun _ _ _ _ _ _ us hl => match us, hl with | [_, _], _ => rfl
  obtain ⟨fd_init, D_init⟩ := c.def_ 57 (d := d_init) rfl
  have F_init : Fun K "__init__" "Web.__init__" s_init (He.ma K C "__init__") fd_init := fun_of D_init
  have b_init : Binds K fd_init ["self", "places", "ties"] [] := F_init.binds fun _ _ _ _ _ _ us hl => match us, hl with | [_, _, _], _ => rfl
  obtain ⟨fd__law_pick, D__law_pick⟩ := c.def_ 58 (d := d__law_pick) rfl
  have F__law_pick : Fun K "_law_pick" "_law_pick" s_pick (He.ga K "_law_pick") fd__law_pick := fun_of D__law_pick
  have m__law_pick : mg "_law_pick" = some (.ref (He.ga K "_law_pick")) := He.glo_ok X G (c.fact 83 (f := .glo "_law_pick") rfl)
  have b__law_pick : Binds K fd__law_pick ["_law_row", "_law_many"] [] := F__law_pick.binds fun _ _ _ _ _ _ us hl => match us, hl with | [_, _], _ => rfl
  obtain ⟨fd__law_web, D__law_web⟩ := c.def_ 59 (d := d__law_web) rfl
  have F__law_web : Fun K "_law_web" "_law_web" s_web (He.ga K "_law_web") fd__law_web := fun_of D__law_web
  have m__law_web : mg "_law_web" = some (.ref (He.ga K "_law_web")) := He.glo_ok X G (c.fact 84 (f := .glo "_law_web") rfl)
  have b__law_web : Binds K fd__law_web ["_law_row", "_law_places", "_law_ties"] [] := F__law_web.binds fun _ _ _ _ _ _ us hl => match us, hl with | [_, _, _], _ => rfl
  obtain ⟨fd__law_wide, D__law_wide⟩ := c.def_ 60 (d := d__law_wide) rfl
  have F__law_wide : Fun K "_law_wide" "_law_wide" s_wide (He.ga K "_law_wide") fd__law_wide := fun_of D__law_wide
  have m__law_wide : mg "_law_wide" = some (.ref (He.ga K "_law_wide")) := He.glo_ok X G (c.fact 85 (f := .glo "_law_wide") rfl)
  have b__law_wide : Binds K fd__law_wide ["_law_row", "_law_places", "_law_ties"] [] := F__law_wide.binds fun _ _ _ _ _ _ us hl => match us, hl with | [_, _, _], _ => rfl
  obtain ⟨fd__law_made, D__law_made⟩ := c.def_ 61 (d := d__law_made) rfl
  have F__law_made : Fun K "_law_made" "_law_made" s_made (He.ga K "_law_made") fd__law_made := fun_of D__law_made
  have m__law_made : mg "_law_made" = some (.ref (He.ga K "_law_made")) := He.glo_ok X G (c.fact 86 (f := .glo "_law_made") rfl)
  have b__law_made : Binds K fd__law_made ["_law_w"] [] := F__law_made.binds fun _ _ _ _ _ _ us hl => match us, hl with | [_], _ => rfl
  obtain ⟨fd__law_draws, D__law_draws⟩ := c.def_ 62 (d := d__law_draws) rfl
  have F__law_draws : Fun K "_law_draws" "_law_draws" s_draws (He.ga K "_law_draws") fd__law_draws := fun_of D__law_draws
  have m__law_draws : mg "_law_draws" = some (.ref (He.ga K "_law_draws")) := He.glo_ok X G (c.fact 87 (f := .glo "_law_draws") rfl)
  have b__law_draws : Binds K fd__law_draws ["_law_script"] [] := F__law_draws.binds fun _ _ _ _ _ _ us hl => match us, hl with | [_], _ => rfl
  obtain ⟨fd__law_led, D__law_led⟩ := c.def_ 63 (d := d__law_led) rfl
  have F__law_led : Fun K "_law_led" "_law_led" s_led (He.ga K "_law_led") fd__law_led := fun_of D__law_led
  have m__law_led : mg "_law_led" = some (.ref (He.ga K "_law_led")) := He.glo_ok X G (c.fact 88 (f := .glo "_law_led") rfl)
  have b__law_led : Binds K fd__law_led ["_law_web_here", "_law_one", "_law_other"] [] := F__law_led.binds fun _ _ _ _ _ _ us hl => match us, hl with | [_, _, _], _ => rfl
  obtain ⟨fd_law, D_law⟩ := c.def_ 64 (d := d_law) rfl
  have F_law : Fun K "law" "law" s_law (He.ga K "law") fd_law := fun_of D_law
  have m_law : mg "law" = some (.ref (He.ga K "law")) := He.glo_ok X G (c.fact 89 (f := .glo "law") rfl)
  have e := hfa.symm.trans m_law
  cases e
  have b := FunD.bindsA (ps := ["_law_script"]) D_law fun _ _ _ _ _ _ us hl => match us, hl with | [_], _ => rfl
  refine ⟨fd_law, fun s v => b s [v] rfl, fun base _ _ => ?_⟩
  have g_is_from : DFn PP w K mg base C "is_from" 1 R_is_from := ⟨_, _, ["value", "low", "high"], ok_is_from T F_is_from, m_is_from, F_is_from.kp, b_is_from⟩
  have g_arrows_of : DFn PP w K mg base C "arrows_of" 1 R_arrows_of := ⟨_, _, ["web", "signs"], ok_arrows_of T W F_arrows_of, m_arrows_of, F_arrows_of.kp, b_arrows_of⟩
  have g_heights_of : DFn PP w K mg base C "heights_of" 2 R_heights_of := ⟨_, _, ["web", "signs"], ok_heights_of T W g_arrows_of F_heights_of, m_heights_of, F_heights_of.kp, b_heights_of⟩
  have g_is_ringless : DFn PP w K mg base C "is_ringless" 3 R_is_ringless := ⟨_, _, ["web", "signs"], ok_is_ringless g_heights_of F_is_ringless, m_is_ringless, F_is_ringless.kp, b_is_ringless⟩
  have g_are_signs : DFn PP w K mg base C "are_signs" 2 R_are_signs := ⟨_, _, ["web", "value"], ok_are_signs T W g_is_from F_are_signs, m_are_signs, F_are_signs.kp, b_are_signs⟩
  have g_check_signs : DFn PP w K mg base C "check_signs" 3 R_check_signs := ⟨_, _, ["web", "value"], ok_check_signs g_are_signs F_check_signs, m_check_signs, F_check_signs.kp, b_check_signs⟩
  have g_check_ringless : DFn PP w K mg base C "check_ringless" 4 R_check_ringless := ⟨_, _, ["web", "value"], ok_check_ringless g_check_signs g_is_ringless F_check_ringless, m_check_ringless, F_check_ringless.kp, b_check_ringless⟩
  have g_leads_round : DFn PP w K mg base C "leads_round" 4 R_leads_round := ⟨_, _, ["web", "signs"], ok_leads_round g_check_signs g_is_ringless F_leads_round, m_leads_round, F_leads_round.kp, b_leads_round⟩
  have g_read_off : DFn PP w K mg base C "read_off" 5 R_read_off := ⟨_, _, ["web", "signs"], ok_read_off g_check_ringless g_heights_of F_read_off, m_read_off, F_read_off.kp, b_read_off⟩
  have g_are_colours : DFn PP w K mg base C "are_colours" 2 R_are_colours := ⟨_, _, ["web", "value"], ok_are_colours T W M_MOST_COLOUR g_is_from F_are_colours, m_are_colours, F_are_colours.kp, b_are_colours⟩
  have g_check_colours : DFn PP w K mg base C "check_colours" 3 R_check_colours := ⟨_, _, ["web", "value"], ok_check_colours g_are_colours F_check_colours, m_check_colours, F_check_colours.kp, b_check_colours⟩
  have g_signs_by : DFn PP w K mg base C "signs_by" 1 R_signs_by := ⟨_, _, ["web", "colours"], ok_signs_by T W F_signs_by, m_signs_by, F_signs_by.kp, b_signs_by⟩
  have g_signs_of : DFn PP w K mg base C "signs_of" 4 R_signs_of := ⟨_, _, ["web", "colours"], ok_signs_of g_check_colours g_signs_by F_signs_of, m_signs_of, F_signs_of.kp, b_signs_of⟩
  have g_all_signs : DFn PP w K mg base C "all_signs" 1 R_all_signs := ⟨_, _, ["many"], ok_all_signs T F_all_signs, m_all_signs, F_all_signs.kp, b_all_signs⟩
  have g_ringless_signs : DFn PP w K mg base C "ringless_signs" 4 R_ringless_signs := ⟨_, _, ["web"], ok_ringless_signs T W g_all_signs g_is_ringless F_ringless_signs, m_ringless_signs, F_ringless_signs.kp, b_ringless_signs⟩
  have g_signings : DFn PP w K mg base C "signings" 5 R_ringless_signs := ⟨_, _, ["web"], ok_signings g_ringless_signs F_signings, m_signings, F_signings.kp, b_signings⟩
  have g_signs_with : DFn PP w K mg base C "signs_with" 5 R_signs_with := ⟨_, _, ["web", "colours"], ok_signs_with g_check_colours g_ringless_signs g_heights_of F_signs_with, m_signs_with, F_signs_with.kp, b_signs_with⟩
  have g_is_tie : DFn PP w K mg base C "is_tie" 2 R_is_tie := ⟨_, _, ["places", "value"], ok_is_tie T g_is_from F_is_tie, m_is_tie, F_is_tie.kp, b_is_tie⟩
  have g_neighbours : DFn PP w K mg base C "neighbours" 1 R_neighbours := ⟨_, _, ["web", "place"], ok_neighbours T W F_neighbours, m_neighbours, F_neighbours.kp, b_neighbours⟩
  have g_check_clock : DFn PP w K mg base C "check_clock" 2 R_check_clock := ⟨_, _, ["hours", "apart"], ok_check_clock M_MOST_HOURS g_is_from F_check_clock, m_check_clock, F_check_clock.kp, b_check_clock⟩
  have g_check_few : DFn PP w K mg base C "check_few" 2 R_check_few := ⟨_, _, ["value"], ok_check_few M_MOST_PLACES g_is_from F_check_few, m_check_few, F_check_few.kp, b_check_few⟩
  have g_ways_on : ∀ j, DFn PP w K mg base C "ways_on" (j + 1) (R_ways_on j) := ok_ways_on T W g_neighbours F_ways_on m_ways_on b_ways_on
  have g_rings_of : DFn PP w K mg base C "rings_of" 8 R_rings_of := ⟨_, _, ["web"], ok_rings_of T W g_ways_on F_rings_of, m_rings_of, F_rings_of.kp, b_rings_of⟩
  have g_forward : DFn PP w K mg base C "forward" 2 R_forward := ⟨_, _, ["web", "signs", "ring"], ok_forward T W g_arrows_of F_forward, m_forward, F_forward.kp, b_forward⟩
  have g_both_ways : DFn PP w K mg base C "both_ways" 9 R_both_ways := ⟨_, _, ["web", "signs"], ok_both_ways T g_check_signs g_rings_of g_forward F_both_ways, m_both_ways, F_both_ways.kp, b_both_ways⟩
  have g_reduced : DFn PP w K mg base C "reduced" 1 R_reduced := ⟨_, _, ["one", "other"], ok_reduced F_reduced, m_reduced, F_reduced.kp, b_reduced⟩
  have g_strain_of : DFn PP w K mg base C "strain_of" 9 R_strain_of := ⟨_, _, ["web", "signs"], ok_strain_of T W g_rings_of g_forward g_reduced F_strain_of, m_strain_of, F_strain_of.kp, b_strain_of⟩
  have g_strain : DFn PP w K mg base C "strain" 10 R_strain := ⟨_, _, ["web", "signs"], ok_strain g_check_ringless g_strain_of F_strain, m_strain, F_strain.kp, b_strain⟩
  have g_least_strain : DFn PP w K mg base C "least_strain" 10 R_least_strain := ⟨_, _, ["web"], ok_least_strain g_ringless_signs g_strain_of F_least_strain, m_least_strain, F_least_strain.kp, b_least_strain⟩
  have g_least_clock : DFn PP w K mg base C "least_clock" 11 R_least_clock := ⟨_, _, ["web"], ok_least_clock g_least_strain F_least_clock, m_least_clock, F_least_clock.kp, b_least_clock⟩
  have g_are_times : DFn PP w K mg base C "are_times" 2 R_are_times := ⟨_, _, ["web", "hours", "apart", "value"], ok_are_times T W g_is_from F_are_times, m_are_times, F_are_times.kp, b_are_times⟩
  have g_is_timed : DFn PP w K mg base C "is_timed" 3 R_is_timed := ⟨_, _, ["web", "hours", "apart", "value"], ok_is_timed g_check_clock g_are_times F_is_timed, m_is_timed, F_is_timed.kp, b_is_timed⟩
  have g_times_on : ∀ j, DFn PP w K mg base C "times_on" (j + 1) (R_times_on j) := ok_times_on T W F_times_on m_times_on b_times_on
  have g_clock : DFn PP w K mg base C "clock" 8 R_clock := ⟨_, _, ["web", "hours", "apart"], ok_clock g_check_clock g_times_on F_clock, m_clock, F_clock.kp, b_clock⟩
  have g_colour_on : ∀ j, DFn PP w K mg base C "colour_on" (j + 1) (R_colour_on j) := ok_colour_on T W F_colour_on m_colour_on b_colour_on
  have g_colouring : DFn PP w K mg base C "colouring" 8 R_colouring := ⟨_, _, ["web", "many"], ok_colouring g_check_few g_colour_on F_colouring, m_colouring, F_colouring.kp, b_colouring⟩
  have g_least_of : DFn PP w K mg base C "least_of" 8 R_least_of := ⟨_, _, ["web"], ok_least_of T W g_colour_on F_least_of, m_least_of, F_least_of.kp, b_least_of⟩
  have g_least : DFn PP w K mg base C "least" 9 R_least_of := ⟨_, _, ["web"], ok_least g_least_of F_least, m_least, F_least.kp, b_least⟩
  have g_paper : DFn PP w K mg base C "paper" 8 R_paper := ⟨_, _, ["web", "many"], ok_paper M_COLOURS g_check_few g_colour_on F_paper, m_paper, F_paper.kp, b_paper⟩
  have g_shows : DFn PP w K mg base C "shows" 3 R_shows := ⟨_, _, ["web", "many", "value"], ok_shows T M_COLOURS g_check_few g_are_colours F_shows, m_shows, F_shows.kp, b_shows⟩
  have g_times_less : DFn PP w K mg base C "times_less" 1 R_times_less := ⟨_, _, ["powers", "number"], ok_times_less T F_times_less, m_times_less, F_times_less.kp, b_times_less⟩
  have g_value_at : DFn PP w K mg base C "value_at" 1 R_value_at := ⟨_, _, ["powers", "number"], ok_value_at F_value_at, m_value_at, F_value_at.kp, b_value_at⟩
  have g_times_by : DFn PP w K mg base C "times_by" 4 R_times_by := ⟨_, _, ["web", "signs", "hours", "apart"], ok_times_by T W g_check_signs g_check_clock g_arrows_of F_times_by, m_times_by, F_times_by.kp, b_times_by⟩
  have g_lots_on : ∀ j, DFn PP w K mg base C "lots_on" (j + 1) (R_lots_on j) := ok_lots_on T W F_lots_on m_lots_on b_lots_on
  have g_powers_of : DFn PP w K mg base C "powers_of" 8 R_powers_of := ⟨_, _, ["web"], ok_powers_of T W g_lots_on g_times_less F_powers_of, m_powers_of, F_powers_of.kp, b_powers_of⟩
  have g_polynomial : DFn PP w K mg base C "polynomial" 9 R_powers_of := ⟨_, _, ["web"], ok_polynomial g_powers_of F_polynomial, m_polynomial, F_polynomial.kp, b_polynomial⟩
  have g_many_colourings : DFn PP w K mg base C "many_colourings" 9 R_many_colourings := ⟨_, _, ["web", "many"], ok_many_colourings M_MOST_COLOUR g_is_from g_powers_of g_value_at F_many_colourings, m_many_colourings, F_many_colourings.kp, b_many_colourings⟩
  have g_many_signings : DFn PP w K mg base C "many_signings" 9 R_many_signings := ⟨_, _, ["web"], ok_many_signings T g_powers_of g_value_at F_many_signings, m_many_signings, F_many_signings.kp, b_many_signings⟩
  have g_can_turn : DFn PP w K mg base C "can_turn" 2 R_can_turn := ⟨_, _, ["web", "signs", "place"], ok_can_turn T g_arrows_of F_can_turn, m_can_turn, F_can_turn.kp, b_can_turn⟩
  have g_turned_at : DFn PP w K mg base C "turned_at" 1 R_turned_at := ⟨_, _, ["web", "signs", "place"], ok_turned_at T W F_turned_at, m_turned_at, F_turned_at.kp, b_turned_at⟩
  have g_turned : DFn PP w K mg base C "turned" 5 R_turned := ⟨_, _, ["web", "signs", "place"], ok_turned W g_check_ringless g_is_from g_can_turn g_turned_at F_turned, m_turned, F_turned.kp, b_turned⟩
  have g_ring_apart : DFn PP w K mg base C "ring_apart" 9 R_ring_apart := ⟨_, _, ["web", "one", "other"], ok_ring_apart g_check_ringless g_rings_of g_forward F_ring_apart, m_ring_apart, F_ring_apart.kp, b_ring_apart⟩
  have gD_rows_from : DFnD PP w K mg base C "rows_from" 3 R_rows_from := ⟨_, _, ["web", "signs"], ok_rows_from T W g_can_turn g_turned_at F_rows_from, m_rows_from, F_rows_from.kp, b_rows_from⟩
  have g_turns : DFn PP w K mg base C "turns" 5 R_turns := ⟨_, _, ["web", "one", "other"], ok_turns g_check_ringless gD_rows_from F_turns, m_turns, F_turns.kp, b_turns⟩
  have g_all_turned : DFn PP w K mg base C "all_turned" 5 R_all_turned := ⟨_, _, ["web", "signs"], ok_all_turned T g_check_ringless gD_rows_from F_all_turned, m_all_turned, F_all_turned.kp, b_all_turned⟩
  have gF_heights_of : DFnF PP w K mg base C "heights_of" 2 R_heights_F := ⟨_, _, ["web", "signs"], ok_heights_F T W g_arrows_of F_heights_of, m_heights_of, F_heights_of.kp, b_heights_of⟩
  have g_way_of : DFn PP w K mg base C "way_of" 3 R_way_of := ⟨_, _, ["web", "signs"], ok_way_of T gF_heights_of g_arrows_of F_way_of, m_way_of, F_way_of.kp, b_way_of⟩
  have g_longest : DFn PP w K mg base C "longest" 5 R_way_of := ⟨_, _, ["web", "signs"], ok_longest g_check_ringless g_way_of F_longest, m_longest, F_longest.kp, b_longest⟩
  have o_init := ok_init T W M_MOST_PLACES M_MOST_TIES g_is_from g_is_tie F_init
  have gR__law_pick : DFnR PP w K mg base C "_law_pick" 1 A_pick R_pick := ⟨_, _, ["_law_row", "_law_many"], ok_pick T F__law_pick, m__law_pick, F__law_pick.kp, b__law_pick⟩
  have gR__law_web : DFnR PP w K mg base C "_law_web" 2 A_web R_web := ⟨_, _, ["_law_row", "_law_places", "_law_ties"], ok_web T gR__law_pick F__law_web, m__law_web, F__law_web.kp, b__law_web⟩
  have gR__law_wide : DFnR PP w K mg base C "_law_wide" 3 A_web R_web := ⟨_, _, ["_law_row", "_law_places", "_law_ties"], ok_wide gR__law_pick gR__law_web F__law_wide, m__law_wide, F__law_wide.kp, b__law_wide⟩
  have gW__law_made : DFnW PP w K mg base C "_law_made" 5 := ⟨_, _, ok_made MK o_init m_Web b_init F__law_made, m__law_made, F__law_made.kp, b__law_made⟩
  have o_draws := ok_draws (mg := mg) (base := base) (w := w) T F__law_draws
  have g__law_led : DFn PP w K mg base C "_law_led" 10 R_led := ⟨_, _, ["_law_web_here", "_law_one", "_law_other"], ok_led T g_turns g_ring_apart g_all_turned g_both_ways g_turned F__law_led, m__law_led, F__law_led.kp, b__law_led⟩
  have GS : Gs w K mg base C := ⟨gR__law_pick, gR__law_wide, gW__law_made, g_signings, g_least, g_many_signings, g_colouring, g_read_off, g_leads_round, g_signs_of, g_signs_with, g_longest, g_polynomial, g_shows, g_paper, g_many_colourings, g__law_led, g_least_clock, g_clock, g_is_timed, g_strain, g_times_by⟩
  exact ok_law GS T HF o_draws m__law_draws F__law_draws.kp b__law_draws F_law
end
end TD
open PySem PySem.W PySem.Calls PyProof.Rows in
theorem TD.holds_of (HF : ∀ n r, TS.WebOk n r → TD.Srt r → TS.Facts n r (TD.ringsD n r)) : PySem.Challenge.rw_tiesigns_k24_whole_ways_that_agree.Holds := by
  w_on; o_law
  refine HandSHeadRun.head_any (r := OpenLaw.row PySem.Challenge.rw_tiesigns_k24_whole_ways_that_agree) (q := TD.qv) (H := TD.hk) (ob := TD.ob) (M := 30000) (loose := TD.namesL) (d := HandSHeadRun.topDef (OpenLaw.row PySem.Challenge.rw_tiesigns_k24_whole_ways_that_agree).prog 89) (kwd := []) TD.ob_eq
    (by kernel_rfl) (fun s => by kernel_rfl) TD.run (by kernel_rfl) (by kernel_rfl) (by kernel_rfl) (by rfl) (by first | assumption | decide +kernel) (by decide +kernel) ⟨rfl, rfl, rfl, rfl, rfl, by decide +kernel⟩ ?hw ?hc
  case hw => w_witness2
  case hc =>
    refine L2.walk_ofE (l := PySem.Challenge.rw_tiesigns_k24_whole_ways_that_agree) (n := 63) (k := 13) (x := "_law_script") (CX := L2.CX0) rfl (by decide) (by kernel_rfl) ⟨rfl, by decide, by decide⟩ ?F (fun _ _ _ _ z => z)
    intro w mg fa h Y G hmg0
    obtain ⟨K, KX, c⟩ := Y
    have hmg : mg ("law" : PySem.Str) = some (.ref fa) := by
      have e : (HandSHeadRun.topDef (OpenLaw.row PySem.Challenge.rw_tiesigns_k24_whole_ways_that_agree).prog 89).name = ("law" : PySem.Str) := by kernel_rfl
      rw [← e]
      exact hmg0
    obtain ⟨fd, hb, hF⟩ := TD.all_ok (w := w) HF KX G hmg c
    exact ⟨K, fd, TD.spLaw K, KX, hb, fun H a ns hl _ hS => ⟨a, ns, rfl, hS, hl, fun _ => rfl⟩, hF⟩
theorem PySem.Challenge.cw_tiesigns_k24_whole_ways_that_agree_holds : PySem.Challenge.rw_tiesigns_k24_whole_ways_that_agree.Holds := by
  exact TD.holds_of fun n r wo _ => TS.facts_all wo fun _ => (TD.ringsD_perm n r).mem_iff
