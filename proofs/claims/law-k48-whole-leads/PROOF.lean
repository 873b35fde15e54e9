import PyProof.Rows.All
import Wide.All
import OpenK.AllK
import Wide.FinOn
import HandS.Base
import HandS.Call
import HandS.Words
import HandS.Style
import HandS.Defaults
import HandS.HeadHook1
import HandS.HeadHook2
import KE.KStateDown
import Lean
import HandS.Ends
import HandS.WordsExc
import HandS.Head0
import HandS.Head1
import HandS.Head2
import HandS.HeadEnd
import HandS.HeadHook4
import HandS.List
import HandS.Comp
import HandS.Dict
import HandS.Iter
import HandS.Evl
import HandS.Walk
import HandS.Zip
import HandS.TupAny
import HandS.IsInst
import HandS.Star
import HandS.Conv
import HandS.SortInts
import KE.KDictDisplayH
import KE.KDictKeyed
import KE.KeyNested
import KE.KDictWalk
import KE.KDictList
import HandS.TupMul
import KE.GoesEnum
import KE.GoesMore
import KE.KTupSum
import HandS.TupLen
import HandS.DictComp
import KE.SortData
import KE.LtData
import HandS.MakeKwOnly
import HandS.RaiseMore
import PyProof.Rows.ReprR
import PyProof.ReprText
import HandS.SortOrd
import HandS.Lambda
import HandS.TryMany
import PyProof.FitsInt
import PyProof.Rows.RegFStrParts
import HandS.EndBits
import HandS.EndTab
import PySem.Challenge.RW_booklimits_k48_whole_leads
set_option Elab.async false
set_option linter.all false
set_option maxRecDepth 100000
set_option maxHeartbeats 1000000
namespace G33
open PySem PySem.Spec PyProof.Rows L2
def top (i : Nat) : Stmt := PySem.Challenge.pw_booklimits_k48_whole_leads.main.body.getD i (.Pass ⟨0, 0, 0, 0⟩)
def d24 : He.DefD := ⟨("is_whole", none), "is_whole", "is_whole", defArgs (top 24), defBody (top 24), defScope (top 24), [], []⟩
def d25 : He.DefD := ⟨("need_hall", none), "need_hall", "need_hall", defArgs (top 25), defBody (top 25), defScope (top 25), [], []⟩
def d26 : He.DefD := ⟨("are_limits", none), "are_limits", "are_limits", defArgs (top 26), defBody (top 26), defScope (top 26), [], []⟩
def d27 : He.DefD := ⟨("is_plain", none), "is_plain", "is_plain", defArgs (top 27), defBody (top 27), defScope (top 27), [], []⟩
def d28 : He.DefD := ⟨("is_word", none), "is_word", "is_word", defArgs (top 28), defBody (top 28), defScope (top 28), [], []⟩
def d29 : He.DefD := ⟨("parts_of", none), "parts_of", "parts_of", defArgs (top 29), defBody (top 29), defScope (top 29), [], []⟩
def d30 : He.DefD := ⟨("need_rule", none), "need_rule", "need_rule", defArgs (top 30), defBody (top 30), defScope (top 30), [], []⟩
def d31 : He.DefD := ⟨("need_kind", none), "need_kind", "need_kind", defArgs (top 31), defBody (top 31), defScope (top 31), [], []⟩
def d32 : He.DefD := ⟨("lets_plain", none), "lets_plain", "lets_plain", defArgs (top 32), defBody (top 32), defScope (top 32), [], []⟩
def d33 : He.DefD := ⟨("lets_of", none), "lets_of", "lets_of", defArgs (top 33), defBody (top 33), defScope (top 33), [], []⟩
def d39 : He.DefD := ⟨("none_of", none), "none_of", "none_of", defArgs (top 39), defBody (top 39), defScope (top 39), [], []⟩
def d40 : He.DefD := ⟨("with_more", none), "with_more", "with_more", defArgs (top 40), defBody (top 40), defScope (top 40), [], []⟩
def d41 : He.DefD := ⟨("cheapest_sold", none), "cheapest_sold", "cheapest_sold", defArgs (top 41), defBody (top 41), defScope (top 41), [], []⟩
def d42 : He.DefD := ⟨("step_of", none), "step_of", "step_of", defArgs (top 42), defBody (top 42), defScope (top 42), [], []⟩
def d43 : He.DefD := ⟨("need_calls", none), "need_calls", "need_calls", defArgs (top 43), defBody (top 43), defScope (top 43), [], []⟩
def d44 : He.DefD := ⟨("worth_of", none), "worth_of", "worth_of", defArgs (top 44), defBody (top 44), defScope (top 44), [], []⟩
def d46 : He.DefD := ⟨("are_counts", none), "are_counts", "are_counts", defArgs (top 46), defBody (top 46), defScope (top 46), [], []⟩
def d48 : He.DefD := ⟨("need_row", none), "need_row", "need_row", defArgs (top 48), defBody (top 48), defScope (top 48), [], []⟩
def d54 : He.DefD := ⟨("first_both", none), "first_both", "first_both", defArgs (top 54), defBody (top 54), defScope (top 54), [], []⟩
def d55 : He.DefD := ⟨("fares_both", none), "fares_both", "fares_both", defArgs (top 55), defBody (top 55), defScope (top 55), [], []⟩
def d56 : He.DefD := ⟨("behind_both", none), "behind_both", "behind_both", defArgs (top 56), defBody (top 56), defScope (top 56), [], []⟩
def d57 : He.DefD := ⟨("lead_at", none), "lead_at", "lead_at", defArgs (top 57), defBody (top 57), defScope (top 57), [], []⟩
def d58 : He.DefD := ⟨("need_both", none), "need_both", "need_both", defArgs (top 58), defBody (top 58), defScope (top 58), [], []⟩
def d59 : He.DefD := ⟨("ways_both", none), "ways_both", "ways_both", defArgs (top 59), defBody (top 59), defScope (top 59), [], []⟩
def d60 : He.DefD := ⟨("lead_range", none), "lead_range", "lead_range", defArgs (top 60), defBody (top 60), defScope (top 60), [], []⟩
def d61 : He.DefD := ⟨("extreme_of", none), "extreme_of", "extreme_of", defArgs (top 61), defBody (top 61), defScope (top 61), [], []⟩
def d62 : He.DefD := ⟨("need_truth", none), "need_truth", "need_truth", defArgs (top 62), defBody (top 62), defScope (top 62), [], []⟩
def d63 : He.DefD := ⟨("lead_row", none), "lead_row", "lead_row", defArgs (top 63), defBody (top 63), defScope (top 63), [], [("least", .bl false)]⟩
def d64 : He.DefD := ⟨("never_less", none), "never_less", "never_less", defArgs (top 64), defBody (top 64), defScope (top 64), [], []⟩
def d65 : He.DefD := ⟨("are_alike", none), "are_alike", "are_alike", defArgs (top 65), defBody (top 65), defScope (top 65), [], []⟩
def d66 : He.DefD := ⟨("parting_row", none), "parting_row", "parting_row", defArgs (top 66), defBody (top 66), defScope (top 66), [], []⟩
def d67 : He.DefD := ⟨("lead_paper", none), "lead_paper", "lead_paper", defArgs (top 67), defBody (top 67), defScope (top 67), [], []⟩
def d68 : He.DefD := ⟨("is_number", none), "is_number", "is_number", defArgs (top 68), defBody (top 68), defScope (top 68), [], []⟩
def d69 : He.DefD := ⟨("is_both", none), "is_both", "is_both", defArgs (top 69), defBody (top 69), defScope (top 69), [], []⟩
def d70 : He.DefD := ⟨("is_table", none), "is_table", "is_table", defArgs (top 70), defBody (top 70), defScope (top 70), [], []⟩
def d71 : He.DefD := ⟨("does_lead", none), "does_lead", "does_lead", defArgs (top 71), defBody (top 71), defScope (top 71), [], []⟩
def d72 : He.DefD := ⟨("check_lead", none), "check_lead", "check_lead", defArgs (top 72), defBody (top 72), defScope (top 72), [], []⟩
def d73 : He.DefD := ⟨("lead_behind", none), "lead_behind", "lead_behind", defArgs (top 73), defBody (top 73), defScope (top 73), [], []⟩
def d75 : He.DefD := ⟨("_law_mixed", none), "_law_mixed", "_law_mixed", defArgs (top 75), defBody (top 75), defScope (top 75), [], []⟩
def d76 : He.DefD := ⟨("_law_folded", none), "_law_folded", "_law_folded", defArgs (top 76), defBody (top 76), defScope (top 76), [], []⟩
def d77 : He.DefD := ⟨("_law_draw", none), "_law_draw", "_law_draw", defArgs (top 77), defBody (top 77), defScope (top 77), [], []⟩
def d78 : He.DefD := ⟨("_law_begun", none), "_law_begun", "_law_begun", defArgs (top 78), defBody (top 78), defScope (top 78), [], []⟩
def d79 : He.DefD := ⟨("_law_like", none), "_law_like", "_law_like", defArgs (top 79), defBody (top 79), defScope (top 79), [], []⟩
def d80 : He.DefD := ⟨("_law_of", none), "_law_of", "_law_of", defArgs (top 80), defBody (top 80), defScope (top 80), [], []⟩
def d81 : He.DefD := ⟨("_law_yard", none), "_law_yard", "_law_yard", defArgs (top 81), defBody (top 81), defScope (top 81), [], []⟩
def d82 : He.DefD := ⟨("_law_bare", none), "_law_bare", "_law_bare", defArgs (top 82), defBody (top 82), defScope (top 82), [], []⟩
def d83 : He.DefD := ⟨("_law_book", none), "_law_book", "_law_book", defArgs (top 83), defBody (top 83), defScope (top 83), [], []⟩
def d84 : He.DefD := ⟨("_law_lets", none), "_law_lets", "_law_lets", defArgs (top 84), defBody (top 84), defScope (top 84), [], []⟩
def d85 : He.DefD := ⟨("_law_step", none), "_law_step", "_law_step", defArgs (top 85), defBody (top 85), defScope (top 85), [], []⟩
def d86 : He.DefD := ⟨("_law_sum", none), "_law_sum", "_law_sum", defArgs (top 86), defBody (top 86), defScope (top 86), [], []⟩
def d87 : He.DefD := ⟨("_law_is_int", none), "_law_is_int", "_law_is_int", defArgs (top 87), defBody (top 87), defScope (top 87), [], []⟩
def d88 : He.DefD := ⟨("_law_may", none), "_law_may", "_law_may", defArgs (top 88), defBody (top 88), defScope (top 88), [], []⟩
def d89 : He.DefD := ⟨("_law_told", none), "_law_told", "_law_told", defArgs (top 89), defBody (top 89), defScope (top 89), [], []⟩
def d90 : He.DefD := ⟨("_law_both", none), "_law_both", "_law_both", defArgs (top 90), defBody (top 90), defScope (top 90), [], []⟩
def d91 : He.DefD := ⟨("_law_lead", none), "_law_lead", "_law_lead", defArgs (top 91), defBody (top 91), defScope (top 91), [], []⟩
def d92 : He.DefD := ⟨("_law_depths", none), "_law_depths", "_law_depths", defArgs (top 92), defBody (top 92), defScope (top 92), [], []⟩
def d93 : He.DefD := ⟨("_law_leads_by", none), "_law_leads_by", "_law_leads_by", defArgs (top 93), defBody (top 93), defScope (top 93), [], []⟩
def d94 : He.DefD := ⟨("_law_is_way", none), "_law_is_way", "_law_is_way", defArgs (top 94), defBody (top 94), defScope (top 94), [], []⟩
def d95 : He.DefD := ⟨("_law_right", none), "_law_right", "_law_right", defArgs (top 95), defBody (top 95), defScope (top 95), [], []⟩
def d96 : He.DefD := ⟨("_law_paper_right", none), "_law_paper_right", "_law_paper_right", defArgs (top 96), defBody (top 96), defScope (top 96), [], []⟩
def d97 : He.DefD := ⟨("law", none), "law", "law", defArgs (top 97), defBody (top 97), defScope (top 97), [], []⟩
def fn : List He.DefD := [d24, d25, d26, d27, d28, d29, d30, d31, d32, d33, d39, d40, d41, d42, d43, d44, d46, d48, d54, d55, d56, d57, d58, d59, d60, d61, d62, d63, d64, d65, d66, d67, d68, d69, d70, d71, d72, d73, d75, d76, d77, d78, d79, d80, d81, d82, d83, d84, d85, d86, d87, d88, d89, d90, d91, d92, d93, d94, d95, d96, d97]
def fa0 : List He.Fa := [.glo "is_whole", .glo "need_hall", .glo "are_limits", .glo "is_plain", .glo "is_word", .glo "parts_of", .glo "need_rule", .glo "need_kind", .glo "lets_plain", .glo "lets_of", .glo "none_of", .glo "with_more", .glo "cheapest_sold", .glo "step_of", .glo "need_calls", .glo "worth_of", .glo "are_counts", .glo "need_row", .glo "first_both", .glo "fares_both", .glo "behind_both", .glo "lead_at", .glo "need_both", .glo "ways_both", .glo "lead_range", .glo "extreme_of", .glo "need_truth", .glo "lead_row", .glo "never_less", .glo "are_alike"]
def fa1 : List He.Fa := [.glo "parting_row", .glo "lead_paper", .glo "is_number", .glo "is_both", .glo "is_table", .glo "does_lead", .glo "check_lead", .glo "lead_behind", .glo "_law_mixed", .glo "_law_folded", .glo "_law_draw", .glo "_law_begun", .glo "_law_like", .glo "_law_of", .glo "_law_yard", .glo "_law_bare", .glo "_law_book", .glo "_law_lets", .glo "_law_step", .glo "_law_sum", .glo "_law_is_int", .glo "_law_may", .glo "_law_told", .glo "_law_both", .glo "_law_lead", .glo "_law_depths", .glo "_law_leads_by", .glo "_law_is_way", .glo "_law_right", .glo "_law_paper_right"]
def fa2 : List He.Fa := [.glo "law", .free "isinstance", .free "len", .free "all", .free "zip", .free "int", .free "bool", .free "tuple", .free "list", .free "str", .free "sum", .free "range", .free "max", .free "min", .free "enumerate", .free "sorted", .free "repr", .int "MOST_SEATS" 6, .int "MOST_FARES" 4, .int "MOST_FARE" 99, .int "MOST_FEE" 99, .int "MOST_WORDS" 7, .int "MOST_DEEP" 3, .str "APART" "apart", .str "NESTED" "nested", .str "KEPT" "kept", .str "ALL" "all", .str "ANY" "any", .str "OUST" "oust", .str "RISING" "rising"]
def fa3 : List He.Fa := [.int "MOST_CALLS" 400, .str "TAKEN" "taken", .str "OUSTED" "ousted", .str "REFUSED" "refused", .int "MOST_PAIRS" 20000, .str "FORM" "form", .str "TABLE" "table", .str "ROW" "row"]
def fa : List He.Fa := fa0 ++ fa1 ++ fa2 ++ fa3
def nm0 : List PySem.Str := ["CallError", "BadHall", "BadRule", "BadKind", "BadCall", "BadMeasure", "BadPaper", "BadState", "TooGreat", "MOST_SEATS", "MOST_FARES", "MOST_FARE", "MOST_FEE", "MOST_WORDS", "MOST_DEEP", "APART", "NESTED", "KEPT", "ALL", "ANY", "OUST", "RISING", "is_whole", "need_hall", "are_limits", "is_plain", "is_word", "parts_of", "need_rule", "need_kind"]
def nm1 : List PySem.Str := ["lets_plain", "lets_of", "MOST_CALLS", "TAKEN", "OUSTED", "REFUSED", "none_of", "with_more", "cheapest_sold", "step_of", "need_calls", "worth_of", "are_counts", "need_row", "MOST_PAIRS", "FORM", "TABLE", "ROW", "first_both", "fares_both", "behind_both", "lead_at", "need_both", "ways_both", "lead_range", "extreme_of", "need_truth", "lead_row", "never_less", "are_alike"]
def nm2 : List PySem.Str := ["parting_row", "lead_paper", "is_number", "is_both", "is_table", "does_lead", "check_lead", "lead_behind", "_law_mixed", "_law_folded", "_law_draw", "_law_begun", "_law_like", "_law_of", "_law_yard", "_law_bare", "_law_book", "_law_lets", "_law_step", "_law_sum", "_law_is_int", "_law_may", "_law_told", "_law_both", "_law_lead", "_law_depths", "_law_leads_by", "_law_is_way", "_law_right", "_law_paper_right"]
def nm : List PySem.Str := nm0 ++ nm1 ++ nm2
end G33
set_option Elab.async false
set_option linter.all false
set_option maxRecDepth 100000
set_option maxHeartbeats 0
namespace G33
open PySem PySem.Spec PyProof.Rows L2
/-! ### the head: the top run in the kernel, read by names, with the law's own code table -/
abbrev Rw : PySem.W.OpenRow := PySem.W.OpenLaw.row PySem.Challenge.rw_booklimits_k48_whole_leads
def tfs : List He.Defn := [("law", none)]
abbrev hk : PySem.W.Hook := He.hookX 4 fa fn [] tfs (fun _ => true)
def ob (s : PySem.W.SharedT) : He.AlX := He.obsX 4 fa fn [] tfs (fun _ => true) (HandSHeadRun.getT s)
theorem ob_eq (s : PySem.W.SharedT) : ob s = hk.obs s.abs := He.obsX_eq (HandSHeadRun.getT_eq s)
theorem run (w : World) : HandSHeadRun.RunEq Rw (PySem.W.view Rw.prog [97]) hk ob 30000 nm w := by
  intro os
  kernel_rfl
end G33
set_option Elab.async false
set_option linter.all false
set_option maxRecDepth 100000
set_option maxHeartbeats 1000000
namespace G33
open PySem PySem.Spec PyProof.Rows L2
abbrev Ex := Evl.Ex
abbrev Ds := List (Option PyData)

/-! ### data, kept while the heap grows -/
theorem rd_up {H H' : Hp} (e : Ex H H') {a : Addr} {u : HO} (h : Rd H a u) : Rd H' a u := Evl.ex_rd e h
mutual
theorem dp_up {K : PySem.W.Frag} {H H' : Hp} (e : Ex H H') : ∀ (d : PyData) {v : V}, Dp K H v d → Dp K H' v d
  | .none, _, h => by cases h; exact .non
  | .bool _, _, h => by cases h; exact .bl _
  | .int _, _, h => by cases h; exact .int _
  | .str _, _, h => by cases h; exact .str _
  | .list ds, _, h => by
    cases h with
    | lst hs ha => exact .lst (Evl.ex_l e hs) (dpa_up e ds ha)
  | .tuple ds, _, h => by
    cases h with
    | tup hs ha => exact .tup (Evl.ex_t e hs) (dpa_up e ds ha)
  | .dict _, _, h => by cases h
theorem dpa_up {K : PySem.W.Frag} {H H' : Hp} (e : Ex H H') : ∀ (ds : List PyData) {vs : List V}, DpAll K H vs ds → DpAll K H' vs ds
  | [], _, h => by cases h; exact .nil
  | d :: ds, _, h => by
    cases h with
    | cons h1 h2 => exact .cons (dp_up e d h1) (dpa_up e ds h2)
end
theorem _root_.L2.Dp.up {K : PySem.W.Frag} {H H' : Hp} {v : V} {d : PyData} (h : Dp K H v d) (e : Ex H H') : Dp K H' v d := dp_up e d h
theorem _root_.L2.DpAll.up {K : PySem.W.Frag} {H H' : Hp} {vs : List V} {ds : List PyData} (h : DpAll K H vs ds) (e : Ex H H') : DpAll K H' vs ds := dpa_up e ds h

/-! data without lists outlives every change of what is no tuple -/
def ExT (H H' : Hp) : Prop := ∀ a xs, Rd H a (.tup xs) → Rd H' a (.tup xs)
theorem ExT.refl (H : Hp) : ExT H H := fun _ _ h => h
theorem ExT.trans {H H1 H2 : Hp} (a : ExT H H1) (b : ExT H1 H2) : ExT H H2 := fun x o h => b x o (a x o h)
theorem ExT.of {H H' : Hp} (e : Ex H H') : ExT H H' := fun _ _ h => rd_up e h
theorem ExT.new {H : Hp} {p : Addr} {o : HO} (h : H p = none) : ExT H (upd H p o) := .of (Evl.Ex.new h)
theorem ExT.put {H : Hp} {p : Addr} {o o' : HO} (h : H p = some o) (h1 : ∀ xs, o ≠ .tup xs) (h2 : ∀ u xs, o ≠ .frz u (.tup xs)) : ExT H (upd H p o') := fun a xs r => by
  have ne : a ≠ p := by
    rintro rfl
    rcases r with r | ⟨u, r⟩
    · rw [h] at r; exact h1 xs (Option.some.inj r)
    · rw [h] at r; exact h2 u xs (Option.some.inj r)
  rcases r with r | ⟨u, r⟩
  · exact .inl (by rw [upd_ne ne]; exact r)
  · exact .inr ⟨u, by rw [upd_ne ne]; exact r⟩
theorem ExT.lst {H : Hp} {p : Addr} {xs : List V} {o' : HO} (h : H p = some (.lst xs)) : ExT H (upd H p o') := ExT.put h (fun _ e => nomatch e) (fun _ _ e => nomatch e)
theorem sqt_up {K : PySem.W.Frag} {H H' : Hp} {a : Addr} {xs : List V} (e : ExT H H') (h : SqT K H a xs) : SqT K H' a xs := by
  rcases h with h | h
  · exact .inl (e _ _ h)
  · exact .inr h
mutual
def pure : PyData → Bool
  | .none | .bool _ | .int _ | .str _ => true
  | .tuple xs => pureAll xs
  | .list _ | .dict _ => false
def pureAll : List PyData → Bool
  | [] => true
  | x :: xs => pure x && pureAll xs
end
mutual
theorem dp_upT {K : PySem.W.Frag} {H H' : Hp} (e : ExT H H') : ∀ (d : PyData) {v : V}, pure d = true → Dp K H v d → Dp K H' v d
  | .none, _, _, h => by cases h; exact .non
  | .bool _, _, _, h => by cases h; exact .bl _
  | .int _, _, _, h => by cases h; exact .int _
  | .str _, _, _, h => by cases h; exact .str _
  | .list ds, _, p, h => by simp [pure] at p
  | .tuple ds, _, p, h => by
    cases h with
    | tup hs ha => exact .tup (sqt_up e hs) (dpa_upT e ds (by simpa [pure] using p) ha)
  | .dict _, _, _, h => by cases h
theorem dpa_upT {K : PySem.W.Frag} {H H' : Hp} (e : ExT H H') : ∀ (ds : List PyData) {vs : List V}, pureAll ds = true → DpAll K H vs ds → DpAll K H' vs ds
  | [], _, _, h => by cases h; exact .nil
  | d :: ds, _, p, h => by
    have p' : pure d = true ∧ pureAll ds = true := by simpa [pureAll] using p
    cases h with
    | cons h1 h2 => exact .cons (dp_upT e d p'.1 h1) (dpa_upT e ds p'.2 h2)
end
theorem _root_.L2.Dp.upT {K : PySem.W.Frag} {H H' : Hp} {v : V} {d : PyData} (h : Dp K H v d) (p : pure d = true) (e : ExT H H') : Dp K H' v d := dp_upT e d p h

theorem dpa_len {K : PySem.W.Frag} {H : Hp} : ∀ {ds : List PyData} {vs : List V}, DpAll K H vs ds → vs.length = ds.length
  | [], _, h => by cases h; rfl
  | d :: ds, _, h => by
    cases h with
    | cons _ h2 => simp [dpa_len h2]
theorem dpa_get {K : PySem.W.Frag} {H : Hp} : ∀ {ds : List PyData} {vs : List V} {i : Nat} {d : PyData}, DpAll K H vs ds → ds[i]? = some d → ∃ v, vs[i]? = some v ∧ Dp K H v d
  | [], _, i, d, _, e => by simp at e
  | d :: ds, _, 0, _, h, e => by
    cases h with
    | cons h1 _ =>
      simp at e
      subst e
      exact ⟨_, rfl, h1⟩
  | d :: ds, _, i + 1, _, h, e => by
    cases h with
    | cons _ h2 =>
      obtain ⟨v, e1, e2⟩ := dpa_get (i := i) h2 (by simpa using e)
      exact ⟨v, by simpa using e1, e2⟩
theorem dpa_back {K : PySem.W.Frag} {H : Hp} : ∀ {ds : List PyData} {vs : List V} {i : Nat} {v : V}, DpAll K H vs ds → vs[i]? = some v → ∃ d, ds[i]? = some d ∧ Dp K H v d
  | [], _, i, d, h, e => by cases h; simp at e
  | d :: ds, _, 0, _, h, e => by
    cases h with
    | cons h1 _ =>
      simp at e
      subst e
      exact ⟨_, rfl, h1⟩
  | d :: ds, _, i + 1, _, h, e => by
    cases h with
    | cons _ h2 =>
      obtain ⟨v, e1, e2⟩ := dpa_back (i := i) h2 (by simpa using e)
      exact ⟨v, by simpa using e1, e2⟩
theorem dpa_append {K : PySem.W.Frag} {H : Hp} : ∀ {ds es : List PyData} {vs ws : List V}, DpAll K H vs ds → DpAll K H ws es → DpAll K H (vs ++ ws) (ds ++ es)
  | [], _, _, _, h, k => by cases h; exact k
  | d :: ds, _, _, _, h, k => by
    cases h with
    | cons h1 h2 => exact .cons h1 (dpa_append h2 k)
theorem dpa_take {K : PySem.W.Frag} {H : Hp} : ∀ (n : Nat) {ds : List PyData} {vs : List V}, DpAll K H vs ds → DpAll K H (vs.take n) (ds.take n)
  | 0, _, _, _ => by simpa using DpAll.nil
  | n + 1, [], _, h => by cases h; exact .nil
  | n + 1, d :: ds, _, h => by
    cases h with
    | cons h1 h2 => exact .cons h1 (dpa_take n h2)
theorem dpa_drop {K : PySem.W.Frag} {H : Hp} : ∀ (n : Nat) {ds : List PyData} {vs : List V}, DpAll K H vs ds → DpAll K H (vs.drop n) (ds.drop n)
  | 0, _, _, h => h
  | n + 1, [], _, h => by cases h; exact .nil
  | n + 1, d :: ds, _, h => by
    cases h with
    | cons h1 h2 => exact dpa_drop n h2
theorem dpa_rev {K : PySem.W.Frag} {H : Hp} : ∀ {ds : List PyData} {vs : List V}, DpAll K H vs ds → DpAll K H vs.reverse ds.reverse
  | [], _, h => by cases h; exact .nil
  | d :: ds, _, h => by
    cases h with
    | cons h1 h2 => simpa using dpa_append (dpa_rev h2) (.cons h1 .nil)
theorem dpa_rep {K : PySem.W.Frag} {H : Hp} {ds : List PyData} {vs : List V} (h : DpAll K H vs ds) : ∀ n : Nat, DpAll K H (List.replicate n vs).flatten (List.replicate n ds).flatten
  | 0 => by simpa using DpAll.nil
  | n + 1 => by simpa [List.replicate_succ] using dpa_append h (dpa_rep h n)
theorem dpa_of_get {K : PySem.W.Frag} {H : Hp} : ∀ {ds : List PyData} {vs : List V}, vs.length = ds.length → (∀ (i : Nat) v d, vs[i]? = some v → ds[i]? = some d → Dp K H v d) → DpAll K H vs ds
  | [], [], _, _ => .nil
  | [], _ :: _, h, _ => by simp at h
  | _ :: _, [], h, _ => by simp at h
  | d :: ds, v :: vs, h, f => .cons (f 0 v d rfl rfl) (dpa_of_get (by simpa using h) fun i v d a b => f (i + 1) v d (by simpa using a) (by simpa using b))
theorem dpa_ints {K : PySem.W.Frag} {H : Hp} : ∀ {ns : List Int} {vs : List V}, DpAll K H vs (ns.map .int) → vs = ns.map V.int
  | [], _, h => by cases h; rfl
  | n :: ns, _, h => by
    cases h with
    | cons h1 h2 =>
      cases h1
      rw [dpa_ints h2]
      rfl
theorem ints_dpa {K : PySem.W.Frag} {H : Hp} : ∀ ns : List Int, DpAll K H (ns.map V.int) (ns.map .int)
  | [] => .nil
  | n :: ns => .cons (.int n) (ints_dpa ns)
theorem dpa_bools {K : PySem.W.Frag} {H : Hp} : ∀ {ns : List Bool} {vs : List V}, DpAll K H vs (ns.map .bool) → vs = ns.map V.bl
  | [], _, h => by cases h; rfl
  | n :: ns, _, h => by
    cases h with
    | cons h1 h2 =>
      cases h1
      rw [dpa_bools h2]
      rfl
end G33
set_option Elab.async false
set_option linter.all false
set_option maxRecDepth 100000
set_option maxHeartbeats 1000000
namespace G33
open PySem
/-! ### the mirror: halls, rules, what becomes of a call -/
abbrev encL (l : List Int) : PyData := .tuple (l.map .int)
structure Hall where
  seats : Int
  fares : List Int
abbrev Hall.enc (h : Hall) : PyData := .tuple [.int h.seats, encL h.fares]
structure Hall.Ok (h : Hall) : Prop where
  s1 : 1 ≤ h.seats
  s6 : h.seats ≤ 6
  n1 : 1 ≤ h.fares.length
  n4 : h.fares.length ≤ 4
  fr : ∀ f ∈ h.fares, 1 ≤ f ∧ f ≤ 99
  up : ∀ p ∈ h.fares.zip h.fares.tail, p.1 < p.2
inductive Pw where
  | apart | nested | kept
def Pw.str : Pw → Str
  | .apart => "apart" | .nested => "nested" | .kept => "kept"
inductive Ru where
  | plain (w : Pw) (l : List Int)
  | two (isAll : Bool) (r s : Ru)
  | oust (r : Ru) (fee : Int)
def Ru.enc : Ru → PyData
  | .plain w l => .tuple [.str w.str, encL l]
  | .two b r s => .tuple [.str (if b then "all" else "any"), r.enc, s.enc]
  | .oust r f => .tuple [.str "oust", r.enc, .int f]
/-- limits of a hall -/
structure LimOk (h : Hall) (w : Pw) (l : List Int) : Prop where
  len : l.length = h.fares.length
  rng : ∀ x ∈ l, 0 ≤ x ∧ x ≤ h.seats
  up : w = .nested → ∀ p ∈ l.zip l.tail, p.1 ≤ p.2
def Ru.In (h : Hall) : Ru → Prop
  | .plain w l => LimOk h w l
  | .two _ r s => r.In h ∧ s.In h
  | .oust _ _ => False
def Ru.Ok (h : Hall) : Ru → Prop
  | .oust r f => r.In h ∧ 0 ≤ f ∧ f ≤ 99
  | r => r.In h
def Ru.size : Ru → Nat
  | .plain _ _ => 1
  | .two _ r s => 1 + r.size + s.size
  | .oust r _ => 1 + r.size
def Ru.deep : Ru → Nat
  | .plain _ _ => 0
  | .two _ r s => 1 + max r.deep s.deep
  | .oust r _ => 1 + r.deep
def letsP (h : Hall) (w : Pw) (l sold : List Int) (fare : Nat) : Bool := match w with
  | .apart => decide (sold.getD fare 0 < l.getD fare 0)
  | .kept => decide (l.getD fare 0 < h.seats - sold.sum)
  | .nested => (List.range (sold.length - fare)).all fun i => decide ((sold.take (fare + i + 1)).sum < l.getD (fare + i) 0)
def lets (h : Hall) : Ru → List Int → Nat → Bool
  | .plain w l, sold, fare => letsP h w l sold fare
  | .two b r s, sold, fare => if b then lets h r sold fare && lets h s sold fare else lets h r sold fare || lets h s sold fare
  | .oust r _, sold, fare => lets h r sold fare
def bump (l : List Int) (i : Nat) (m : Int) : List Int := l.set i (l.getD i 0 + m)
def cheap (sold : List Int) : Option Nat := (List.range sold.length).find? fun i => decide (0 < sold.getD i 0)
structure Stp where
  sold : List Int
  paid : Int
  deed : Str
def ousts (h : Hall) (r : Ru) (sold : List Int) (fare : Nat) : Option (Nat × Int) := match r with
  | .oust _ fee => match cheap sold with
    | some i => if i < fare ∧ fee < h.fares.getD fare 0 - h.fares.getD i 0 then some (i, fee) else none
    | none => none
  | _ => none
def step (h : Hall) (r : Ru) (sold : List Int) (paid : Int) (fare : Nat) : Stp :=
  if sold.sum < h.seats ∧ lets h r sold fare = true then ⟨bump sold fare 1, paid, "taken"⟩
  else match ousts h r sold fare with
    | some (i, fee) => ⟨bump (bump sold i (-1)) fare 1, paid + fee, "ousted"⟩
    | none => ⟨sold, paid, "refused"⟩
def worth (h : Hall) (c : List Int) : Int := ((h.fares.zip c).map fun p => p.1 * p.2).sum
/-- a pair state -/
structure Pr where
  a : List Int
  pa : Int
  b : List Int
  pb : Int
  last : Int
  deriving DecidableEq
abbrev Pr.enc (p : Pr) : PyData := .tuple [encL p.a, .int p.pa, encL p.b, .int p.pb, .int p.last]
def none0 (h : Hall) : List Int := List.replicate h.fares.length 0
def first (h : Hall) : Pr := ⟨none0 h, 0, none0 h, 0, -1⟩
def lead (h : Hall) (p : Pr) : Int := worth h p.a - p.pa - worth h p.b + p.pb
/-- the fares that may be called for: from lo on -/
def lowOf (rising : Bool) (p : Pr) : Int := if rising then max 0 p.last else 0
def mayOf (h : Hall) (rising : Bool) (p : Pr) : List Int := (List.range ((h.fares.length : Int) - lowOf rising p).toNat).map fun n => lowOf rising p + (n : Nat)
def behind (h : Hall) (r s : Ru) (rising : Bool) (p : Pr) (f : Int) : Pr :=
  let x := step h r p.a p.pa f.toNat
  let y := step h s p.b p.pb f.toNat
  ⟨x.sold, x.paid, y.sold, y.paid, if rising then f else -1⟩
/-- counts of a hall -/
structure CntOk (h : Hall) (c : List Int) : Prop where
  len : c.length = h.fares.length
  nn : ∀ x ∈ c, 0 ≤ x
  sm : c.sum ≤ h.seats
def kindS (rising : Bool) : Str := if rising then "rising" else "any"
end G33
set_option Elab.async false
set_option linter.all false
set_option maxRecDepth 100000
set_option maxHeartbeats 1000000
namespace G33
open PySem PySem.Spec PyProof.Rows L2
/-! ### pair states as keys -/
def nkL (l : List Int) : NestedKey := .tup (l.map .num)
def nk (p : Pr) : NestedKey := .tup [nkL p.a, .num p.pa, nkL p.b, .num p.pb, .num p.last]
theorem nums_inj : ∀ {a b : List Int}, a.map NestedKey.num = b.map NestedKey.num → a = b
  | [], [], _ => rfl
  | [], _ :: _, h => by cases h
  | _ :: _, [], h => by cases h
  | x :: a, y :: b, h => by
    rw [List.map_cons, List.map_cons] at h
    injection h with h1 h2
    injection h1 with h1
    rw [h1, nums_inj h2]
theorem nkL_inj {a b : List Int} (h : nkL a = nkL b) : a = b := by
  unfold nkL at h
  injection h with h
  exact nums_inj h
theorem nk_inj {p q : Pr} (h : nk p = nk q) : p = q := by
  obtain ⟨a, pa, b, pb, l⟩ := p
  obtain ⟨a', pa', b', pb', l'⟩ := q
  unfold nk at h
  injection h with h
  injection h with h1 h
  injection h with h2 h
  injection h with h3 h
  injection h with h4 h
  injection h with h5 h
  injection h2 with h2
  injection h4 with h4
  injection h5 with h5
  exact (Pr.mk.injEq ..).mpr ⟨nkL_inj h1, h2, nkL_inj h3, h4, h5⟩
theorem nums_depth : ∀ l : List Int, NestedKey.depthAll (l.map .num) = 0
  | [] => by rw [List.map_nil, NestedKey.depthAll]
  | x :: l => by rw [List.map_cons, NestedKey.depthAll, nums_depth l, NestedKey.depth]; rfl
theorem nk_depth (p : Pr) : (nk p).depth ≤ 8 := by
  unfold nk nkL
  simp [NestedKey.depth, NestedKey.depthAll, nums_depth]
section
variable {X : Cx} {pins : List (Addr × Obj)} {σ : L2.St} {H : Hp} {s : Shared}
theorem nums_of : ∀ {l : List Int} {vs : List V} {us : List Value}, DpAll X.K H vs (l.map .int) → Vals vs us → NestedAll s.heap (l.map .num) us
  | [], _, _, h, r => by
    cases h
    cases r
    exact .nil
  | x :: l, _, _, h, r => by
    cases h with
    | cons h1 h2 =>
      cases h1
      cases r with
      | cons r1 r2 =>
        obtain ⟨t, rfl⟩ := r1
        exact .cons (.int x t) (nums_of h2 r2)
theorem nkL_of (I : Inv X pins σ H s) {l : List Int} {v : V} {u : Value} (h : Dp X.K H v (encL l)) (r : RelV v u) : NestedIs s.heap (nkL l) u := by
  cases h with
  | tup hs hd =>
    cases r
    obtain ⟨its, rv, ⟨o, ho, hc, n, hd'⟩, _⟩ := I.tuple hs
    exact .tup ho hc hd' (by simpa using nums_of hd rv)
theorem nk_of (I : Inv X pins σ H s) {p : Pr} {v : V} {u : Value} (h : Dp X.K H v p.enc) (r : RelV v u) : NestedIs s.heap (nk p) u := by
  cases h with
  | tup hs hd =>
    cases r
    obtain ⟨its, rv, ⟨o, ho, hc, n, hd'⟩, _⟩ := I.tuple hs
    refine .tup ho hc hd' ?_
    simp only [List.toList_toArray]
    cases hd with
    | cons h1 hd =>
      cases hd with
      | cons h2 hd =>
        cases hd with
        | cons h3 hd =>
          cases hd with
          | cons h4 hd =>
            cases hd with
            | cons h5 hd =>
              cases hd
              cases rv with
              | cons r1 rv =>
                cases rv with
                | cons r2 rv =>
                  cases rv with
                  | cons r3 rv =>
                    cases rv with
                    | cons r4 rv =>
                      cases rv with
                      | cons r5 rv =>
                        cases rv
                        have k1 := nkL_of I h1 r1
                        have k3 := nkL_of I h3 r3
                        cases h2
                        cases h4
                        cases h5
                        obtain ⟨t2, rfl⟩ := r2
                        obtain ⟨t4, rfl⟩ := r4
                        obtain ⟨t5, rfl⟩ := r5
                        exact .cons k1 (.cons (.int _ _) (.cons k3 (.cons (.int _ _) (.cons (.int _ _) .nil))))
theorem key_is (I : Inv X pins σ H s) {p : Pr} {a : Addr} (h : Dp X.K H (.ref a) p.enc) : (nestedKind X.prog X.w).is s.heap (nk p) a := ⟨nk_of I h rfl, nk_depth p⟩
end
/-! ### dicts with pair states for keys -/
structure TabO (w : World) (o : Obj) (es : Array DictEntry) (ep : Nat) (xs : List (Pr × Addr × V)) : Prop where
  exact : o.ExactDict
  data : o.data = .dict es ep
  rel : Paired (fun x e => e.hash = (nk x.1).hash w ∧ e.key = .ref x.2.1 ∧ RelV x.2.2 e.val) xs es.toList
def TabE (K : PySem.W.Frag) (H : Hp) (kvs : List (Pr × PyData)) (xs : List (Pr × Addr × V)) : Prop := Paired (fun p x => x.1 = p.1 ∧ Dp K H (.ref x.2.1) p.1.enc ∧ Dp K H x.2.2 p.2) kvs xs
structure Tab (w : World) (K : PySem.W.Frag) (H : Hp) (d : Addr) (kvs : List (Pr × PyData)) : Prop where
  len : kvs.length ≤ 100000
  nd : (kvs.map (·.1)).Nodup
  sys : (d == sysModules) = false
  ex : ∃ o es ep xs, H d = some (.ext fun h => h.get? d = some o) ∧ TabO w o es ep xs ∧ TabE K H kvs xs
def pureKV (kvs : List (Pr × PyData)) : Prop := ∀ p ∈ kvs, pure p.2 = true
theorem pure_pr (p : Pr) : pure p.enc = true := by
  have h1 : ∀ l : List Int, pureAll (l.map .int) = true := by
    intro l
    induction l with
    | nil => simp [pureAll]
    | cons a l ih => simp [pureAll, pure, ih]
  simp [Pr.enc, encL, pure, pureAll, h1]
theorem paired_mem {α β : Type} {F : α → β → Prop} : ∀ {l : List α} {m : List β}, Paired F l m → ∀ {G : α → β → Prop}, (∀ a ∈ l, ∀ b, F a b → G a b) → Paired G l m
  | _, _, .nil, _, _ => .nil
  | _, _, .cons r t, _, f => .cons (f _ (by simp) _ r) (paired_mem t fun a ha b h => f a (by simp [ha]) b h)
theorem Tab.upT {w : World} {K : PySem.W.Frag} {H H' : Hp} {d : Addr} {kvs : List (Pr × PyData)} (T : Tab w K H d kvs) (p : pureKV kvs) (e : ExT H H') (hd : H' d = H d) : Tab w K H' d kvs :=
  let ⟨o, es, ep, xs, h1, h2, h3⟩ := T.ex
  ⟨T.len, T.nd, T.sys, o, es, ep, xs, by rw [hd]; exact h1, h2, paired_mem h3 fun a ha b ⟨q1, q2, q3⟩ => ⟨q1, q2.upT (pure_pr _) e, q3.upT (p a ha) e⟩⟩
theorem Tab.up {w : World} {K : PySem.W.Frag} {H H' : Hp} {d : Addr} {kvs : List (Pr × PyData)} (T : Tab w K H d kvs) (e : Ex H H') : Tab w K H' d kvs :=
  let ⟨o, es, ep, xs, h1, h2, h3⟩ := T.ex
  ⟨T.len, T.nd, T.sys, o, es, ep, xs, e _ _ h1, h2, paired_mem h3 fun a ha b ⟨q1, q2, q3⟩ => ⟨q1, q2.up e, q3.up e⟩⟩
/-- how the dict's entries stand to the data -/
abbrev EntR (K : PySem.W.Frag) (H : Hp) : (Pr × PyData) → (NestedKey × Addr × Value) → Prop := fun p y => y.1 = nk p.1 ∧ Dp K H (.ref y.2.1) p.1.enc ∧ ∃ v, RelV v y.2.2 ∧ Dp K H v p.2
section
variable {X : Cx} {pins : List (Addr × Obj)} {σ : L2.St} {H : Hp} {s : Shared} {d : Addr} {kvs : List (Pr × PyData)}
theorem ents_of {w : World} {K : PySem.W.Frag} {H : Hp} : ∀ {kvs : List (Pr × PyData)} {xs : List (Pr × Addr × V)} {es : List DictEntry}, Paired (fun p x => x.1 = p.1 ∧ Dp K H (.ref x.2.1) p.1.enc ∧ Dp K H x.2.2 p.2) kvs xs →
    Paired (fun x e => e.hash = (nk x.1).hash w ∧ e.key = .ref x.2.1 ∧ RelV x.2.2 e.val) xs es → ∃ ys : List (NestedKey × Addr × Value), (es = ys.map fun y => ⟨y.1.hash w, .ref y.2.1, y.2.2⟩) ∧ Paired (EntR K H) kvs ys
  | [], _, _, h, g => by
    cases h
    cases g
    exact ⟨[], rfl, .nil⟩
  | p :: kvs, _, _, h, g => by
    cases h with
    | @cons _ x _ xs h1 h2 =>
      cases g with
      | @cons _ e _ es g1 g2 =>
        obtain ⟨ys, rfl, r⟩ := ents_of h2 g2
        obtain ⟨a1, a2, a3⟩ := h1
        obtain ⟨b1, b2, b3⟩ := g1
        refine ⟨(nk p.1, x.2.1, e.val) :: ys, ?_, .cons ⟨rfl, a2, _, b3, a3⟩ r⟩
        rw [List.map_cons]
        congr 1
        cases e
        simp only at b1 b2
        rw [b1, b2, a1]
theorem keys_of {K : PySem.W.Frag} {H : Hp} : ∀ {kvs : List (Pr × PyData)} {ys : List (NestedKey × Addr × Value)}, Paired (EntR K H) kvs ys → ys.map (·.1) = kvs.map fun p => nk p.1
  | [], _, h => by cases h; rfl
  | p :: kvs, _, h => by
    cases h with
    | cons h1 h2 => rw [List.map_cons, List.map_cons, h1.1, keys_of h2]
theorem nk_nodup {l : List Pr} (h : l.Nodup) : (l.map nk).Nodup := by
  rw [List.nodup_iff_pairwise_ne, List.pairwise_map]
  rw [List.nodup_iff_pairwise_ne] at h
  exact h.imp fun n e => n (nk_inj e)
theorem is_all (I : Inv X pins σ H s) : ∀ {kvs : List (Pr × PyData)} {ys : List (NestedKey × Addr × Value)}, Paired (EntR X.K H) kvs ys → ∀ y ∈ ys, (nestedKind X.prog X.w).is s.heap y.1 y.2.1
  | [], _, h, y, hy => by cases h; cases hy
  | p :: kvs, _, h, y, hy => by
    cases h with
    | cons h1 h2 =>
      rcases List.mem_cons.mp hy with rfl | hy
      · rw [h1.1]; exact key_is I h1.2.1
      · exact is_all I h2 y hy
theorem tab_of (I : Inv X pins σ H s) (T : Tab X.w X.K H d kvs) : ∃ ys, s.heap.DictOfH (nestedKind X.prog X.w) d ys ∧ Paired (EntR X.K H) kvs ys := by
  obtain ⟨o, es, ep, xs, h1, ⟨g1, g2, g3⟩, h3⟩ := T.ex
  obtain ⟨hφ, _, _⟩ := (show ObjOk X.prog X.w H s.heap d (.ext fun h => h.get? d = some o) from I.hok d _ h1)
  obtain ⟨ys, e1, r⟩ := ents_of (w := X.w) h3 g3
  refine ⟨ys, ⟨o, es, ep, hφ, g1, g2, e1, is_all I r, ?_⟩, r⟩
  have hk := keys_of r
  have : (ys.map fun x => x.1) = (kvs.map (·.1)).map nk := by rw [hk, List.map_map]; rfl
  rw [this]
  exact nk_nodup T.nd
theorem at_of {K : PySem.W.Frag} {H : Hp} (q : Pr) : ∀ {kvs : List (Pr × PyData)} {ys : List (NestedKey × Addr × Value)}, Paired (EntR K H) kvs ys →
    (kvs.lookup q = none ∧ atKey ys (nk q) = none) ∨ ∃ e y, kvs.lookup q = some e ∧ atKey ys (nk q) = some y ∧ ∃ v, RelV v y.2 ∧ Dp K H v e
  | [], _, h => by cases h; exact .inl ⟨rfl, rfl⟩
  | p :: kvs, _, h => by
    cases h with
    | @cons _ y _ ys h1 h2 =>
      obtain ⟨a1, a2, v, a3, a4⟩ := h1
      obtain ⟨p, e⟩ := p
      by_cases hq : q = p
      · subst hq
        refine .inr ⟨e, y.2, by simp [List.lookup], ?_, v, a3, a4⟩
        unfold atKey
        rw [List.find?_cons, decide_eq_true a1]
        rfl
      · have hn : ¬ y.1 = nk q := fun z => hq (nk_inj (z.symm.trans a1))
        have e1 : ((p, e) :: kvs).lookup q = kvs.lookup q := by
          show (match q == p with | true => some e | false => kvs.lookup q) = _
          rw [beq_false_of_ne hq]
        have e2 : atKey (y :: ys) (nk q) = atKey ys (nk q) := by
          unfold atKey
          rw [List.find?_cons, decide_eq_false hn]
        rw [e1, e2]
        exact at_of q h2
/-- a dict that stands, as data -/
theorem tab_new {H' : Hp} {h' : Heap} {w : World} {K : PySem.W.Frag} {P : Program} {ys : List (NestedKey × Addr × Value)} (hl : kvs.length ≤ 100000) (hn : (kvs.map (·.1)).Nodup) (hs : (d == sysModules) = false) (D : h'.DictOfH (nestedKind P w) d ys)
    (r : ∀ o, Paired (EntR K (upd H' d (.ext fun h => h.get? d = some o))) kvs ys) : ∃ o, ObjOk P w (upd H' d (.ext fun h => h.get? d = some o)) h' d (.ext fun h => h.get? d = some o) ∧ Tab w K (upd H' d (.ext fun h => h.get? d = some o)) d kvs := by
  obtain ⟨o, es, ep, ho, hc, hd, he, his, hnd⟩ := D
  refine ⟨o, ⟨ho, ⟨o, ho⟩, fun h1 h2 a b => b o a⟩, hl, hn, hs, o, es, ep, ?_⟩
  have key : ∀ {kvs : List (Pr × PyData)} {ys : List (NestedKey × Addr × Value)} {es : List DictEntry} {G : Hp}, Paired (EntR K G) kvs ys → es = ys.map (entryOfKey (nestedKind P w)) →
      ∃ xs : List (Pr × Addr × V), Paired (fun x e => e.hash = (nk x.1).hash w ∧ e.key = .ref x.2.1 ∧ RelV x.2.2 e.val) xs es ∧ Paired (fun p x => x.1 = p.1 ∧ Dp K G (.ref x.2.1) p.1.enc ∧ Dp K G x.2.2 p.2) kvs xs := by
    intro kvs
    induction kvs with
    | nil =>
      intro ys es G r e
      cases r
      subst e
      exact ⟨[], .nil, .nil⟩
    | cons p kvs ih =>
      intro ys es G r e
      cases r with
      | @cons _ y _ ys h1 h2 =>
        subst e
        obtain ⟨xs, b1, b2⟩ := ih h2 rfl
        obtain ⟨a1, a2, v, a3, a4⟩ := h1
        exact ⟨(p.1, y.2.1, v) :: xs, .cons ⟨by rw [show (entryOfKey (nestedKind P w) y).hash = y.1.hash w from rfl, a1], rfl, a3⟩ b1, .cons ⟨rfl, a2, a4⟩ b2⟩
  obtain ⟨xs, b1, b2⟩ := key (r o) he
  exact ⟨xs, upd_same, ⟨hc, hd, b1⟩, b2⟩
end
/-! ### what a slot may hold: data, or a dict of pair states -/
def dictD (kvs : List (Pr × PyData)) : PyData := .dict (kvs.map fun p => (p.1.enc, p.2))
theorem ints_inj : ∀ {a b : List Int}, a.map PyData.int = b.map PyData.int → a = b
  | [], [], _ => rfl
  | [], _ :: _, h => by cases h
  | _ :: _, [], h => by cases h
  | x :: a, y :: b, h => by
    rw [List.map_cons, List.map_cons] at h
    injection h with h1 h2
    injection h1 with h1
    rw [h1, ints_inj h2]
theorem encL_inj {a b : List Int} (h : encL a = encL b) : a = b := by
  injection h with h
  exact ints_inj h
theorem enc_inj {p q : Pr} (h : p.enc = q.enc) : p = q := by
  obtain ⟨a, pa, b, pb, l⟩ := p
  obtain ⟨a', pa', b', pb', l'⟩ := q
  injection h with h
  injection h with h1 h
  injection h with h2 h
  injection h with h3 h
  injection h with h4 h
  injection h with h5 h
  injection h2 with h2
  injection h4 with h4
  injection h5 with h5
  exact (Pr.mk.injEq ..).mpr ⟨encL_inj h1, h2, encL_inj h3, h4, h5⟩
theorem kvs_inj : ∀ {a b : List (Pr × PyData)}, a.map (fun p => (p.1.enc, p.2)) = b.map (fun p => (p.1.enc, p.2)) → a = b
  | [], [], _ => rfl
  | [], _ :: _, h => by cases h
  | _ :: _, [], h => by cases h
  | x :: a, y :: b, h => by
    rw [List.map_cons, List.map_cons] at h
    injection h with h1 h2
    injection h1 with h3 h4
    rw [kvs_inj h2, Prod.ext (enc_inj h3) h4]
theorem dictD_inj {a b : List (Pr × PyData)} (h : dictD a = dictD b) : a = b := by
  injection h with h
  exact kvs_inj h
def HoldsD (w : World) (K : PySem.W.Frag) (H : Hp) (v : V) (d : PyData) : Prop := Dp K H v d ∨ ∃ kvs a, d = dictD kvs ∧ v = .ref a ∧ Tab w K H a kvs
def nd : PyData → Bool
  | .dict _ => false
  | _ => true
theorem ru_nd : ∀ r : Ru, nd r.enc = true
  | .plain _ _ => rfl
  | .two _ _ _ => rfl
  | .oust _ _ => rfl
section
variable {w : World} {K : PySem.W.Frag} {H H' : Hp} {v : V} {d : PyData}
theorem HoldsD.dp (h : HoldsD w K H v d) (n : nd d = true) : Dp K H v d := by
  rcases h with h | ⟨kvs, a, rfl, _⟩
  · exact h
  · cases n
theorem HoldsD.tab {kvs : List (Pr × PyData)} (h : HoldsD w K H v (dictD kvs)) : ∃ a, v = .ref a ∧ Tab w K H a kvs := by
  rcases h with h | ⟨kvs', a, e, rfl, T⟩
  · cases h
  · rw [dictD_inj e]; exact ⟨a, rfl, T⟩
theorem HoldsD.up (h : HoldsD w K H v d) (e : Ex H H') : HoldsD w K H' v d := by
  rcases h with h | ⟨kvs, a, q, r, T⟩
  · exact .inl (h.up e)
  · exact .inr ⟨kvs, a, q, r, T.up e⟩
theorem nd_of_pure (h : pure d = true) : nd d = true := by
  cases d <;> first | rfl | (simp [pure] at h)
theorem HoldsD.upT (h : HoldsD w K H v d) (p : pure d = true) (e : ExT H H') : HoldsD w K H' v d := .inl ((h.dp (nd_of_pure p)).upT p e)
end
end G33
set_option Elab.async false
set_option linter.all false
set_option maxRecDepth 100000
set_option maxHeartbeats 1000000
namespace G33
open PySem PySem.Spec PyProof.Rows L2
/-! ### what the slots hold -/
def Lc (w : World) (K : PySem.W.Frag) (H : Hp) (σ : L2.St) (ds : Ds) : Prop := σ.length = ds.length ∧ ∀ (i : Nat) d, ds[i]? = some (some d) → ∃ v, σ[i]? = some (some v) ∧ HoldsD w K H v d
section
variable {w : World} {K : PySem.W.Frag} {H H' : Hp} {σ : L2.St} {ds : Ds}
theorem Lc.up (L : Lc w K H σ ds) (e : Ex H H') : Lc w K H' σ ds := ⟨L.1, fun i d h => let ⟨v, a, b⟩ := L.2 i d h; ⟨v, a, b.up e⟩⟩
theorem Lc.upT (L : Lc w K H σ ds) (p : ∀ (i : Nat) d, ds[i]? = some (some d) → pure d = true) (e : ExT H H') : Lc w K H' σ ds := ⟨L.1, fun i d h => let ⟨v, a, b⟩ := L.2 i d h; ⟨v, a, b.upT (p i d h) e⟩⟩
theorem Lc.setH (L : Lc w K H σ ds) (i : Nat) {v : V} {d : PyData} (h : HoldsD w K H v d) : Lc w K H (σ.set i (some v)) (ds.set i (some d)) := by
  refine ⟨by rw [List.length_set, List.length_set, L.1], fun j d' hj => ?_⟩
  by_cases hij : i = j
  · subst hij
    by_cases hl : i < ds.length
    · rw [List.getElem?_set_self hl] at hj
      cases hj
      exact ⟨v, List.getElem?_set_self (by rw [L.1]; exact hl), h⟩
    · rw [List.getElem?_eq_none (by simpa using hl)] at hj
      cases hj
  · rw [List.getElem?_set_ne hij] at hj
    obtain ⟨w, a, b⟩ := L.2 j d' hj
    exact ⟨w, by rw [List.getElem?_set_ne hij]; exact a, b⟩
theorem Lc.set (L : Lc w K H σ ds) (i : Nat) {v : V} {d : PyData} (h : Dp K H v d) : Lc w K H (σ.set i (some v)) (ds.set i (some d)) := L.setH i (.inl h)
/-- a slot of which nothing is told -/
theorem Lc.un (L : Lc w K H σ ds) (i : Nat) (o : Option V) : Lc w K H (σ.set i o) (ds.set i none) := by
  refine ⟨by rw [List.length_set, List.length_set, L.1], fun j d' hj => ?_⟩
  by_cases hij : i = j
  · subst hij
    by_cases hl : i < ds.length
    · rw [List.getElem?_set_self hl] at hj
      cases hj
    · rw [List.getElem?_eq_none (by simpa using hl)] at hj
      cases hj
  · rw [List.getElem?_set_ne hij] at hj
    obtain ⟨w, a, b⟩ := L.2 j d' hj
    exact ⟨w, by rw [List.getElem?_set_ne hij]; exact a, b⟩
def wipeD (ds : Ds) : List Nat → Ds
  | [] => ds
  | v :: vs => (wipeD ds vs).set v none
theorem Lc.wipe (L : Lc w K H σ ds) : ∀ vs : List Nat, Lc w K H (L2.wipe σ vs) (wipeD ds vs)
  | [] => L
  | v :: vs => (Lc.wipe L vs).un v none
theorem Lc.weak {ds' : Ds} (L : Lc w K H σ ds) (hl : ds'.length = ds.length) (h : ∀ (i : Nat) d, ds'[i]? = some (some d) → ds[i]? = some (some d)) : Lc w K H σ ds' := ⟨by rw [L.1, hl], fun i d e => L.2 i d (h i d e)⟩
def startD (n : Nat) (as : List PyData) : Ds := as.map some ++ List.replicate (n - as.length) none
theorem Lc.start {N : List Str} {vs : List V} {as : List PyData} (h : DpAll K H vs as) : Lc w K H (L2.start N vs) (startD N.length as) := by
  have hl := dpa_len h
  refine ⟨by simp [L2.start, startD, hl], fun i d e => ?_⟩
  unfold startD at e
  have hi : i < as.length := by
    by_cases hi : i < as.length
    · exact hi
    · rw [List.getElem?_append_right (by simpa using hi)] at e
      rw [List.getElem?_replicate] at e
      split at e <;> cases e
  rw [List.getElem?_append_left (by simpa using hi), List.getElem?_map] at e
  cases q : as[i]? with
  | none => rw [q] at e; cases e
  | some d' =>
    rw [q] at e
    cases e
    obtain ⟨v, a, b⟩ := dpa_get h q
    refine ⟨v, ?_, .inl b⟩
    unfold L2.start
    rw [List.getElem?_append_left (by simpa using (by omega : i < vs.length)), List.getElem?_map, a]
    rfl
end
end G33
set_option Elab.async false
set_option linter.all false
set_option maxRecDepth 100000
set_option maxHeartbeats 1000000
namespace G33
open PySem PySem.Spec PyProof.Rows L2
def teD (w : World) (K : PySem.W.Frag) (ds : Ds) (d : PyData) : TE := fun σ H Q => Lc w K H σ ds ∧ ∀ v H', Ex H H' → Dp K H' v d → Q v H'
def ttD (w : World) (K : PySem.W.Frag) (ds : Ds) (b : Bool) : TT := fun σ H Q => Lc w K H σ ds ∧ ∀ H', Ex H H' → Q b H'
def taD (w : World) (K : PySem.W.Frag) (ds : Ds) (dl : List PyData) : TA := fun σ H Q => Lc w K H σ ds ∧ ∀ vs H', Ex H H' → DpAll K H' vs dl → Q vs H'
def toD (w : World) (K : PySem.W.Frag) (ds : Ds) (o : Option Int) : TO := fun σ H Q => Lc w K H σ ds ∧ ∀ H', Ex H H' → Q o H'
/-- what a rule by values asks, of data -/
def Gives (K : PySem.W.Frag) (d : PyData) (H : Hp) (Q : VK) : Prop := ∀ u H', Ex H H' → Dp K H' u d → Q u H'
theorem Gives.now {K : PySem.W.Frag} {d : PyData} {H : Hp} {Q : VK} (g : Gives K d H Q) {u : V} (h : Dp K H u d) : Q u H := g u H (Evl.Ex.refl H) h
theorem Gives.new {K : PySem.W.Frag} {ds : List PyData} {vs : List V} {H : Hp} {Q : VK} (g : Gives K (.tuple ds) H Q) (h : DpAll K H vs ds) : ∀ p, H p = none → Q (.ref p) (upd H p (.tup vs)) := fun p hp =>
  g _ _ (Evl.Ex.new hp) (.tup (.inl (.inl upd_same)) (h.up (Evl.Ex.new hp)))
theorem Gives.newL {K : PySem.W.Frag} {ds : List PyData} {vs : List V} {H : Hp} {Q : VK} (g : Gives K (.list ds) H Q) (h : DpAll K H vs ds) : ∀ p, H p = none → Q (.ref p) (upd H p (.lst vs)) := fun p hp =>
  g _ _ (Evl.Ex.new hp) (.lst (.inl (.inl upd_same)) (h.up (Evl.Ex.new hp)))
section
variable {X : Cx} {ds : Ds} {d d1 d2 : PyData} {a b e : Expr} {pos : Pos}
theorem pe_imp {t t' : TE} (h : PE X e t) (w : ∀ σ H Q, t' σ H Q → t σ H Q) : PE X e t' := ⟨fun pins s σ H Q I q => h.run pins s σ H Q I (w σ H Q q)⟩
theorem pt_imp {t t' : TT} (h : PT X e t) (w : ∀ σ H Q, t' σ H Q → t σ H Q) : PT X e t' := ⟨fun pins s σ H Q I q => h.run pins s σ H Q I (w σ H Q q)⟩
theorem pw_imp {t t' : TT} (h : PW X e t) (w : ∀ σ H Q, t' σ H Q → t σ H Q) : PW X e t' := ⟨fun wh pins s σ H Q I q => h.run wh pins s σ H Q I (w σ H Q q)⟩
theorem pa_imp {es : List Expr} {t t' : TA} (h : PA X es t) (w : ∀ σ H Q, t' σ H Q → t σ H Q) : PA X es t' := ⟨fun p pins s σ H Q I q => h.run p pins s σ H Q I (w σ H Q q)⟩
theorem po_imp {o : Option Expr} {t t' : TO} (h : PO X o t) (w : ∀ σ H Q, t' σ H Q → t σ H Q) : PO X o t' := ⟨fun pins s σ H Q I q => h.run pins s σ H Q I (w σ H Q q)⟩
theorem pd_eq (h : PE X e (teD X.w X.K ds d1)) (q : d1 = d) : PE X e (teD X.w X.K ds d) := q ▸ h
def look (ds : Ds) (i : Nat) : PyData := match ds[i]? with
  | some (some d) => d
  | _ => .none
def known (ds : Ds) (i : Nat) : Bool := match ds[i]? with
  | some (some _) => true
  | _ => false
theorem look_of {ds : Ds} {i : Nat} (h : known ds i = true) : ds[i]? = some (some (look ds i)) := by
  unfold known at h
  unfold look
  cases q : ds[i]? with
  | none => rw [q] at h; cases h
  | some o =>
    rw [q] at h
    cases o with
    | none => cases h
    | some d => rfl
theorem pd_name (i : Nat) {x : Str} (h : known ds i = true := by rfl) (hp : nd (look ds i) = true := by first | rfl | exact ru_nd _ | assumption) (hN : X.N[i]? = some x := by rfl) (hv : Vis X.env.scope x := by first | exact Or.inl rfl | exact Or.inr (Or.inl rfl) | exact Or.inr (Or.inr rfl))
    (hd : (x == ("__debug__" : Str)) = false := by decide) (hcd : (x == ("__classdict__" : Str)) = false := by decide) : PE X (.Name x pos) (teD X.w X.K ds (look ds i)) :=
  pe_imp (pe_var hN hv hd hcd) fun σ H Q ⟨L, q⟩ => let ⟨v, e, dv⟩ := L.2 i _ (look_of h); ⟨v, e, q v H (Evl.Ex.refl H) (dv.dp hp)⟩
theorem pd_c {v : V} (h : PE X e (tC v)) (hv : ∀ H, Dp X.K H v d) : PE X e (teD X.w X.K ds d) := pe_imp h fun σ H Q ⟨_, q⟩ => q v H (Evl.Ex.refl H) (hv H)
theorem pd_int {i : Int} {j} : PE X (.Constant (.int i) j pos) (teD X.w X.K ds (.int i)) := pd_c pe_int fun _ => .int i
theorem pd_bl {i : Bool} {j} : PE X (.Constant (.bool i) j pos) (teD X.w X.K ds (.bool i)) := pd_c pe_bl fun _ => .bl i
theorem pd_str {i : Str} {j} : PE X (.Constant (.str i) j pos) (teD X.w X.K ds (.str i)) := pd_c pe_str fun _ => .str i
theorem pd_non {j} : PE X (.Constant .none j pos) (teD X.w X.K ds .none) := pd_c pe_non fun _ => .non
theorem pd_gint {x : Str} {i : Int} (hm : ∃ t, X.mg x = some (.int i t)) (hg : Gl X x := by rfl) (hd : (x == ("__debug__" : Str)) = false := by decide) : PE X (.Name x pos) (teD X.w X.K ds (.int i)) :=
  let ⟨t, h⟩ := hm; pd_c (pe_glob hg h (v := .int i) ⟨t, rfl⟩ hd) fun _ => .int i
theorem pd_gstr {x z : Str} (hm : ∃ t, X.mg x = some (.str z t)) (hg : Gl X x := by rfl) (hd : (x == ("__debug__" : Str)) = false := by decide) : PE X (.Name x pos) (teD X.w X.K ds (.str z)) :=
  let ⟨t, h⟩ := hm; pd_c (pe_glob hg h (v := .str z) ⟨t, rfl⟩ hd) fun _ => .str z
/-- an operator by its rule on values -/
def OnD (K : PySem.W.Frag) (r : R2) (d1 d2 d : PyData) : Prop := ∀ v w H (Q : VK), Dp K H v d1 → Dp K H w d2 → Gives K d H Q → r v w H Q
theorem onD {r : R2} {ta tb : TE} {σ : L2.St} {H : Hp} {Q : VK} (ho : OnD X.K r d1 d2 d) (q : teD X.w X.K ds d σ H Q) : teD X.w X.K ds d1 σ H fun x H1 => teD X.w X.K ds d2 σ H1 fun y H2 => r x y H2 Q :=
  ⟨q.1, fun v H1 e1 h1 => ⟨q.1.up e1, fun w H2 e2 h2 => ho v w H2 Q (h1.up e2) h2 fun u H3 e3 h3 => q.2 u H3 ((e1.trans e2).trans e3) h3⟩⟩
theorem pd_op {op : Operator} {r : R2} (ho : OpR X (binaryOp op) r) (hr : OnD X.K r d1 d2 d) (ha : PE X a (teD X.w X.K ds d1)) (hb : PE X b (teD X.w X.K ds d2)) : PE X (.BinOp a op b pos) (teD X.w X.K ds d) :=
  pe_imp (pe_op ho ha hb) fun _ _ _ q => onD (ta := teD X.w X.K ds d1) (tb := teD X.w X.K ds d2) hr q
theorem pd_cmp {op : CmpOp} {r : R2} (ho : OpR X (compareOp op) r) (hm : behindInMarks op b = false) (hr : OnD X.K r d1 d2 d) (ha : PE X a (teD X.w X.K ds d1)) (hb : PE X b (teD X.w X.K ds d2)) : PE X (.Compare a [op] [b] pos) (teD X.w X.K ds d) :=
  pe_imp (pe_cmpR ho ha hb hm) fun _ _ _ q => onD (ta := teD X.w X.K ds d1) (tb := teD X.w X.K ds d2) hr q
theorem pt_cmp' {op : CmpOp} {r : R2} {k : Bool} (ho : OpR X (compareOp op) r) (hm : behindInMarks op b = false) (hr : OnD X.K r d1 d2 (.bool k)) (ha : PE X a (teD X.w X.K ds d1)) (hb : PE X b (teD X.w X.K ds d2)) : PT X (.Compare a [op] [b] pos) (ttD X.w X.K ds k) :=
  pt_imp (pt_cmpR ho ha hb hm) fun σ H Q q => onD (ds := ds) (d := .bool k) (ta := teD X.w X.K ds d1) (tb := teD X.w X.K ds d2) hr ⟨q.1, fun v H' e h => by cases h; exact ⟨k, rfl, q.2 H' e⟩⟩
theorem on_int {C : Int → Int → Prop} {g : Int → Int → Int} {i j : Int} (hc : C i j) : OnD X.K (rI C fun i j => .int (g i j)) (.int i) (.int j) (.int (g i j)) := fun v w H Q h1 h2 g' => by
  cases h1; cases h2; exact ⟨i, j, rfl, rfl, hc, g'.now (.int _)⟩
theorem on_int0 {g : Int → Int → Int} {i j : Int} : OnD X.K (rI0 fun i j => .int (g i j)) (.int i) (.int j) (.int (g i j)) := fun v w H Q h1 h2 g' => by
  cases h1; cases h2; exact ⟨i, j, rfl, rfl, g'.now (.int _)⟩
theorem on_bl0 {g : Int → Int → Bool} {i j : Int} : OnD X.K (rI0 fun i j => .bl (g i j)) (.int i) (.int j) (.bool (g i j)) := fun v w H Q h1 h2 g' => by
  cases h1; cases h2; exact ⟨i, j, rfl, rfl, g'.now (.bl _)⟩
section
variable {i j : Int}
theorem pd_add (ha : PE X a (teD X.w X.K ds (.int i))) (hb : PE X b (teD X.w X.K ds (.int j))) : PE X (.BinOp a .Add b pos) (teD X.w X.K ds (.int (i + j))) := pd_op op_add on_int0 ha hb
theorem pd_sub (ha : PE X a (teD X.w X.K ds (.int i))) (hb : PE X b (teD X.w X.K ds (.int j))) : PE X (.BinOp a .Sub b pos) (teD X.w X.K ds (.int (i - j))) := pd_op op_sub on_int0 ha hb
theorem pd_mul (ha : PE X a (teD X.w X.K ds (.int i))) (hb : PE X b (teD X.w X.K ds (.int j))) (hc : CMul i j) : PE X (.BinOp a .Mult b pos) (teD X.w X.K ds (.int (i * j))) := pd_op op_mul (on_int hc) ha hb
theorem pd_mod (ha : PE X a (teD X.w X.K ds (.int i))) (hb : PE X b (teD X.w X.K ds (.int j))) (hc : 0 < j) : PE X (.BinOp a .Mod b pos) (teD X.w X.K ds (.int (i % j))) := pd_op op_mod (on_int hc) ha hb
theorem pd_fdiv (ha : PE X a (teD X.w X.K ds (.int i))) (hb : PE X b (teD X.w X.K ds (.int j))) (hc : CDiv i j) : PE X (.BinOp a .FloorDiv b pos) (teD X.w X.K ds (.int (i / j))) := pd_op op_fdiv (on_int hc) ha hb
theorem pd_pow (ha : PE X a (teD X.w X.K ds (.int i))) (hb : PE X b (teD X.w X.K ds (.int j))) (hc : CPow i j) : PE X (.BinOp a .Pow b pos) (teD X.w X.K ds (.int (i ^ j.toNat))) := pd_op op_pow (on_int hc) ha hb
theorem pd_neg (ha : PE X a (teD X.w X.K ds (.int i))) : PE X (.UnaryOp .USub a pos) (teD X.w X.K ds (.int (-i))) :=
  pe_imp (pe_un un_neg ha) fun _ _ _ q => ⟨q.1, fun v H1 e1 h1 => by cases h1; exact ⟨i, rfl, q.2 _ _ e1 (.int _)⟩⟩
theorem pd_lt (ha : PE X a (teD X.w X.K ds (.int i))) (hb : PE X b (teD X.w X.K ds (.int j))) : PE X (.Compare a [.Lt] [b] pos) (teD X.w X.K ds (.bool (decide (i < j)))) := pd_cmp op_lt (nomark _) on_bl0 ha hb
theorem pd_le (ha : PE X a (teD X.w X.K ds (.int i))) (hb : PE X b (teD X.w X.K ds (.int j))) : PE X (.Compare a [.LtE] [b] pos) (teD X.w X.K ds (.bool (decide (i ≤ j)))) := pd_cmp op_le (nomark _) on_bl0 ha hb
theorem pd_gt (ha : PE X a (teD X.w X.K ds (.int i))) (hb : PE X b (teD X.w X.K ds (.int j))) : PE X (.Compare a [.Gt] [b] pos) (teD X.w X.K ds (.bool (decide (j < i)))) := pd_cmp op_gt (nomark _) on_bl0 ha hb
theorem pd_ge (ha : PE X a (teD X.w X.K ds (.int i))) (hb : PE X b (teD X.w X.K ds (.int j))) : PE X (.Compare a [.GtE] [b] pos) (teD X.w X.K ds (.bool (decide (j ≤ i)))) := pd_cmp op_ge (nomark _) on_bl0 ha hb
theorem pt_lt (ha : PE X a (teD X.w X.K ds (.int i))) (hb : PE X b (teD X.w X.K ds (.int j))) : PT X (.Compare a [.Lt] [b] pos) (ttD X.w X.K ds (decide (i < j))) := pt_cmp' op_lt (nomark _) on_bl0 ha hb
theorem pt_le (ha : PE X a (teD X.w X.K ds (.int i))) (hb : PE X b (teD X.w X.K ds (.int j))) : PT X (.Compare a [.LtE] [b] pos) (ttD X.w X.K ds (decide (i ≤ j))) := pt_cmp' op_le (nomark _) on_bl0 ha hb
theorem pt_gt (ha : PE X a (teD X.w X.K ds (.int i))) (hb : PE X b (teD X.w X.K ds (.int j))) : PT X (.Compare a [.Gt] [b] pos) (ttD X.w X.K ds (decide (j < i))) := pt_cmp' op_gt (nomark _) on_bl0 ha hb
theorem pt_ge (ha : PE X a (teD X.w X.K ds (.int i))) (hb : PE X b (teD X.w X.K ds (.int j))) : PT X (.Compare a [.GtE] [b] pos) (ttD X.w X.K ds (decide (j ≤ i))) := pt_cmp' op_ge (nomark _) on_bl0 ha hb
end
/-! scalars compared -/
def scD : PyData → PyData → Bool
  | .int _, .int _ | .bool _, .bool _ | .str _, .str _ => true
  | _, _ => false
theorem on_eq (h : scD d1 d2 = true) : OnD X.K rEq d1 d2 (.bool (PyData.eqv d1 d2)) := fun v w H Q h1 h2 g => by
  cases h1 <;> cases h2 <;> first
    | (simp [scD] at h; done)
    | (refine ⟨rfl, ?_⟩; first
        | (rw [dec_int]; exact g.now (.bl _))
        | (rw [dec_bl]; exact g.now (.bl _))
        | (rw [dec_str]; exact g.now (.bl _)))
theorem on_ne (h : scD d1 d2 = true) : OnD X.K rNe d1 d2 (.bool (!PyData.eqv d1 d2)) := fun v w H Q h1 h2 g => by
  cases h1 <;> cases h2 <;> first
    | (simp [scD] at h; done)
    | (refine ⟨rfl, ?_⟩; first
        | (rw [dec_int]; exact g.now (.bl _))
        | (rw [dec_bl]; exact g.now (.bl _))
        | (rw [dec_str]; exact g.now (.bl _)))
theorem pd_eqS (ha : PE X a (teD X.w X.K ds d1)) (hb : PE X b (teD X.w X.K ds d2)) (h : scD d1 d2 = true := by rfl) : PE X (.Compare a [.Eq] [b] pos) (teD X.w X.K ds (.bool (PyData.eqv d1 d2))) := pd_cmp op_eq (nomark _) (on_eq h) ha hb
theorem pd_neS (ha : PE X a (teD X.w X.K ds d1)) (hb : PE X b (teD X.w X.K ds d2)) (h : scD d1 d2 = true := by rfl) : PE X (.Compare a [.NotEq] [b] pos) (teD X.w X.K ds (.bool (!PyData.eqv d1 d2))) := pd_cmp op_ne (nomark _) (on_ne h) ha hb
theorem pt_eqS (ha : PE X a (teD X.w X.K ds d1)) (hb : PE X b (teD X.w X.K ds d2)) (h : scD d1 d2 = true := by rfl) : PT X (.Compare a [.Eq] [b] pos) (ttD X.w X.K ds (PyData.eqv d1 d2)) := pt_cmp' op_eq (nomark _) (on_eq h) ha hb
theorem pt_neS (ha : PE X a (teD X.w X.K ds d1)) (hb : PE X b (teD X.w X.K ds d2)) (h : scD d1 d2 = true := by rfl) : PT X (.Compare a [.NotEq] [b] pos) (ttD X.w X.K ds (!PyData.eqv d1 d2)) := pt_cmp' op_ne (nomark _) (on_ne h) ha hb
/-! data compared -/
theorem on_eqD (h1 : SeqAt.shaped d1 = true) (h2 : SeqAt.shaped d2 = true) : OnD X.K (rEqD X.K) d1 d2 (.bool (PyData.eqv d1 d2)) := fun v w H Q a b g => ⟨d1, d2, a, b, h1, h2, g.now (.bl _)⟩
theorem on_neD (h1 : SeqAt.shaped d1 = true) (h2 : SeqAt.shaped d2 = true) : OnD X.K (rNeD X.K) d1 d2 (.bool (!PyData.eqv d1 d2)) := fun v w H Q a b g => ⟨d1, d2, a, b, h1, h2, g.now (.bl _)⟩
theorem pd_eqD (hu : X.A.units + 64 < cLine) (ha : PE X a (teD X.w X.K ds d1)) (hb : PE X b (teD X.w X.K ds d2)) (h1 : SeqAt.shaped d1 = true) (h2 : SeqAt.shaped d2 = true) : PE X (.Compare a [.Eq] [b] pos) (teD X.w X.K ds (.bool (PyData.eqv d1 d2))) := pd_cmp (op_eqD hu) (nomark _) (on_eqD h1 h2) ha hb
theorem pd_neD (hu : X.A.units + 64 < cLine) (ha : PE X a (teD X.w X.K ds d1)) (hb : PE X b (teD X.w X.K ds d2)) (h1 : SeqAt.shaped d1 = true) (h2 : SeqAt.shaped d2 = true) : PE X (.Compare a [.NotEq] [b] pos) (teD X.w X.K ds (.bool (!PyData.eqv d1 d2))) := pd_cmp (op_neD hu) (nomark _) (on_neD h1 h2) ha hb
theorem pt_eqD (hu : X.A.units + 64 < cLine) (ha : PE X a (teD X.w X.K ds d1)) (hb : PE X b (teD X.w X.K ds d2)) (h1 : SeqAt.shaped d1 = true) (h2 : SeqAt.shaped d2 = true) : PT X (.Compare a [.Eq] [b] pos) (ttD X.w X.K ds (PyData.eqv d1 d2)) := pt_cmp' (op_eqD hu) (nomark _) (on_eqD h1 h2) ha hb
theorem pt_neD (hu : X.A.units + 64 < cLine) (ha : PE X a (teD X.w X.K ds d1)) (hb : PE X b (teD X.w X.K ds d2)) (h1 : SeqAt.shaped d1 = true) (h2 : SeqAt.shaped d2 = true) : PT X (.Compare a [.NotEq] [b] pos) (ttD X.w X.K ds (!PyData.eqv d1 d2)) := pt_cmp' (op_neD hu) (nomark _) (on_neD h1 h2) ha hb
/-! is None -/
def isN : PyData → Bool
  | .none => true
  | _ => false
theorem isN_of {K : PySem.W.Frag} {H : Hp} {v : V} (h : Dp K H v d) : decide (v = .non) = isN d := by
  cases h <;> simp [isN]
theorem on_isN : OnD X.K (fun x y H Q => y = .non ∧ Q (.bl (decide (x = .non))) H) d .none (.bool (isN d)) := fun v w H Q a b g => by
  cases b
  exact ⟨rfl, by rw [isN_of a]; exact g.now (.bl _)⟩
theorem on_notN : OnD X.K (fun x y H Q => y = .non ∧ Q (.bl (!decide (x = .non))) H) d .none (.bool (!isN d)) := fun v w H Q a b g => by
  cases b
  exact ⟨rfl, by rw [isN_of a]; exact g.now (.bl _)⟩
theorem pt_isN (ha : PE X a (teD X.w X.K ds d)) {j p'} : PT X (.Compare a [.Is] [.Constant .none j p'] pos) (ttD X.w X.K ds (isN d)) := pt_cmp' op_isN (nomark _) on_isN ha pd_non
theorem pt_notN (ha : PE X a (teD X.w X.K ds d)) {j p'} : PT X (.Compare a [.IsNot] [.Constant .none j p'] pos) (ttD X.w X.K ds (!isN d)) := pt_cmp' op_notN (nomark _) on_notN ha pd_non
theorem pd_isN (ha : PE X a (teD X.w X.K ds d)) {j p'} : PE X (.Compare a [.Is] [.Constant .none j p'] pos) (teD X.w X.K ds (.bool (isN d))) := pd_cmp op_isN (nomark _) on_isN ha pd_non
/-! x in a tuple or list of flat data -/
def flatD : PyData → Bool
  | .none | .bool _ | .int _ | .str _ => true
  | _ => false
def inD (x : PyData) (xs : List PyData) : Bool := xs.any fun y => PyData.eqv y x
theorem flat_of {K : PySem.W.Frag} {H : Hp} {v : V} (h : Dp K H v d) (f : flatD d = true) : flatV v = true := by
  cases h <;> first | rfl | (simp [flatD] at f)
theorem eqV_of {K : PySem.W.Frag} {H : Hp} {v w : V} (h1 : Dp K H v d1) (h2 : Dp K H w d2) (f1 : flatD d1 = true) (f2 : flatD d2 = true) : eqV v w = PyData.eqv d1 d2 := by
  cases h1 <;> cases h2 <;> first
    | (simp [flatD] at f1; done)
    | (simp [flatD] at f2; done)
    | (simp [eqV, PyData.eqv, Bool.beq_eq_decide_eq]; done)
    | rfl
theorem flats_of {K : PySem.W.Frag} {H : Hp} : ∀ {ds : List PyData} {vs : List V}, DpAll K H vs ds → ds.all flatD = true → vs.all flatV = true
  | [], _, h, _ => by cases h; rfl
  | d :: ds, _, h, f => by
    rw [List.all_cons, Bool.and_eq_true] at f
    cases h with
    | cons h1 h2 => rw [List.all_cons, flat_of h1 f.1, flats_of h2 f.2]; rfl
theorem inV_of {K : PySem.W.Frag} {H : Hp} {v : V} {x : PyData} (hx : Dp K H v x) (fx : flatD x = true) : ∀ {ds : List PyData} {vs : List V}, DpAll K H vs ds → ds.all flatD = true → inV v vs = inD x ds
  | [], _, h, _ => by cases h; rfl
  | d :: ds, _, h, f => by
    rw [List.all_cons, Bool.and_eq_true] at f
    cases h with
    | cons h1 h2 =>
      have ih := inV_of hx fx h2 f.2
      unfold inV inD at ih ⊢
      rw [List.any_cons, List.any_cons, eqV_of h1 hx f.1 fx, ih]
theorem on_inT {neg : Bool} {x : PyData} {xs : List PyData} (fx : flatD x = true) (f : xs.all flatD = true) : OnD X.K (rIn X.K neg) x (.tuple xs) (.bool (if neg then !inD x xs else inD x xs)) := fun v w H Q h1 h2 g => by
  cases h2 with
  | tup hs ha => exact ⟨_, _, rfl, .inr hs, flat_of h1 fx, flats_of ha f, by rw [inV_of h1 fx ha f]; exact g.now (.bl _)⟩
theorem on_inL {neg : Bool} {x : PyData} {xs : List PyData} (fx : flatD x = true) (f : xs.all flatD = true) : OnD X.K (rIn X.K neg) x (.list xs) (.bool (if neg then !inD x xs else inD x xs)) := fun v w H Q h1 h2 g => by
  cases h2 with
  | lst hs ha => exact ⟨_, _, rfl, .inl hs, flat_of h1 fx, flats_of ha f, by rw [inV_of h1 fx ha f]; exact g.now (.bl _)⟩
theorem pt_inT {x : PyData} {xs : List PyData} (ha : PE X a (teD X.w X.K ds x)) (hb : PE X b (teD X.w X.K ds (.tuple xs))) (fx : flatD x = true := by rfl) (f : xs.all flatD = true := by rfl) (hm : behindInMarks .In b = false := by rfl) : PT X (.Compare a [.In] [b] pos) (ttD X.w X.K ds (inD x xs)) :=
  pt_cmp' op_in_seq hm (on_inT (neg := false) fx f) ha hb
theorem pd_inT {x : PyData} {xs : List PyData} (ha : PE X a (teD X.w X.K ds x)) (hb : PE X b (teD X.w X.K ds (.tuple xs))) (fx : flatD x = true := by rfl) (f : xs.all flatD = true := by rfl) (hm : behindInMarks .In b = false := by rfl) : PE X (.Compare a [.In] [b] pos) (teD X.w X.K ds (.bool (inD x xs))) :=
  pd_cmp op_in_seq hm (on_inT (neg := false) fx f) ha hb
theorem pt_notInT {x : PyData} {xs : List PyData} (ha : PE X a (teD X.w X.K ds x)) (hb : PE X b (teD X.w X.K ds (.tuple xs))) (fx : flatD x = true := by rfl) (f : xs.all flatD = true := by rfl) (hm : behindInMarks .NotIn b = false := by rfl) : PT X (.Compare a [.NotIn] [b] pos) (ttD X.w X.K ds (!inD x xs)) :=
  pt_cmp' op_notIn_seq hm (on_inT (neg := true) fx f) ha hb
theorem pt_notInL {x : PyData} {xs : List PyData} (ha : PE X a (teD X.w X.K ds x)) (hb : PE X b (teD X.w X.K ds (.list xs))) (fx : flatD x = true) (f : xs.all flatD = true) (hm : behindInMarks .NotIn b = false := by rfl) : PT X (.Compare a [.NotIn] [b] pos) (ttD X.w X.K ds (!inD x xs)) :=
  pt_cmp' op_notIn_seq hm (on_inL (neg := true) fx f) ha hb
/-! ### truth -/
theorem pt_b {k : Bool} (h : PE X e (teD X.w X.K ds (.bool k))) (he : ∀ whole, isTrue e X.env whole = (do let v ← whole; standAt e.pos; holding [v] (truthy v)) := by intro _; rfl) : PT X e (ttD X.w X.K ds k) :=
  pt_imp (pt_val h he) fun σ H Q q => ⟨q.1, fun v H' e h => by cases h; exact ⟨k, rfl, q.2 H' e⟩⟩
theorem pt_eq {k k' : Bool} (h : PT X e (ttD X.w X.K ds k)) (q : k = k') : PT X e (ttD X.w X.K ds k') := q ▸ h
theorem pt_no {k : Bool} (h : PT X e (ttD X.w X.K ds k)) : PT X (.UnaryOp .Not e pos) (ttD X.w X.K ds (!k)) := pt_imp (pt_not h) fun σ H Q q => ⟨q.1, fun H' e => q.2 H' e⟩
def ttF : TT := fun _ _ _ => False
theorem pw_F : PW X e ttF := ⟨fun _ _ _ _ _ _ _ h => h.elim⟩
theorem pe_F : PE X e (fun _ _ _ => False) := ⟨fun _ _ _ _ _ _ h => h.elim⟩
theorem wt_and1 {k : Bool} (h : PT X a (ttD X.w X.K ds k)) : PW X (.BoolOp .And [a] pos) (ttD X.w X.K ds k) := pw_and1 h
theorem wt_or1 {k : Bool} (h : PT X a (ttD X.w X.K ds k)) : PW X (.BoolOp .Or [a] pos) (ttD X.w X.K ds k) := pw_or1 h
theorem wt_and {k k' : Bool} {rest : List Expr} (ha : PT X a (ttD X.w X.K ds k)) (hb : k = true → PW X (.BoolOp .And (b :: rest) pos) (ttD X.w X.K ds k')) : PW X (.BoolOp .And (a :: b :: rest) pos) (ttD X.w X.K ds (k && k')) := by
  cases k with
  | true => exact pw_imp (pw_and ha (hb rfl)) fun σ H Q q => ⟨q.1, fun H1 e1 => iteT ⟨q.1.up e1, fun H2 e2 => q.2 H2 (e1.trans e2)⟩⟩
  | false => exact pw_imp (pw_and ha pw_F) fun σ H Q q => ⟨q.1, fun H1 e1 => iteF (q.2 H1 e1)⟩
theorem wt_or {k k' : Bool} {rest : List Expr} (ha : PT X a (ttD X.w X.K ds k)) (hb : k = false → PW X (.BoolOp .Or (b :: rest) pos) (ttD X.w X.K ds k')) : PW X (.BoolOp .Or (a :: b :: rest) pos) (ttD X.w X.K ds (k || k')) := by
  cases k with
  | false => exact pw_imp (pw_or ha (hb rfl)) fun σ H Q q => ⟨q.1, fun H1 e1 => iteF ⟨q.1.up e1, fun H2 e2 => q.2 H2 (e1.trans e2)⟩⟩
  | true => exact pw_imp (pw_or ha pw_F) fun σ H Q q => ⟨q.1, fun H1 e1 => iteT (q.2 H1 e1)⟩
theorem pd_one {op} (h : PE X a (teD X.w X.K ds d)) : PE X (.BoolOp op [a] pos) (teD X.w X.K ds d) := pe_one h
theorem pd_and {k k' : Bool} {rest : List Expr} (ha : PE X a (teD X.w X.K ds (.bool k))) (hb : k = true → PE X (.BoolOp .And (b :: rest) pos) (teD X.w X.K ds (.bool k'))) : PE X (.BoolOp .And (a :: b :: rest) pos) (teD X.w X.K ds (.bool (k && k'))) := by
  cases k with
  | true => exact pe_imp (pe_and ha (hb rfl)) fun σ H Q q => ⟨q.1, fun v H1 e1 h1 => by cases h1; exact ⟨true, rfl, iteT ⟨q.1.up e1, fun u H2 e2 h2 => q.2 u H2 (e1.trans e2) h2⟩⟩⟩
  | false => exact pe_imp (pe_and ha pe_F) fun σ H Q q => ⟨q.1, fun v H1 e1 h1 => by cases h1; exact ⟨false, rfl, iteF (q.2 _ H1 e1 (.bl _))⟩⟩
theorem pd_or {k k' : Bool} {rest : List Expr} (ha : PE X a (teD X.w X.K ds (.bool k))) (hb : k = false → PE X (.BoolOp .Or (b :: rest) pos) (teD X.w X.K ds (.bool k'))) : PE X (.BoolOp .Or (a :: b :: rest) pos) (teD X.w X.K ds (.bool (k || k'))) := by
  cases k with
  | false => exact pe_imp (pe_or ha (hb rfl)) fun σ H Q q => ⟨q.1, fun v H1 e1 h1 => by cases h1; exact ⟨false, rfl, iteF ⟨q.1.up e1, fun u H2 e2 h2 => q.2 u H2 (e1.trans e2) h2⟩⟩⟩
  | true => exact pe_imp (pe_or ha pe_F) fun σ H Q q => ⟨q.1, fun v H1 e1 h1 => by cases h1; exact ⟨true, rfl, iteT (q.2 _ H1 e1 (.bl _))⟩⟩
theorem pd_not {k : Bool} (ha : PE X a (teD X.w X.K ds (.bool k))) : PE X (.UnaryOp .Not a pos) (teD X.w X.K ds (.bool (!k))) :=
  pe_imp (pe_not ha) fun σ H Q q => ⟨q.1, fun v H1 e1 h1 => by cases h1; exact ⟨k, rfl, q.2 _ H1 e1 (.bl _)⟩⟩
theorem pd_if {c : Expr} {k : Bool} (hc : PT X c (ttD X.w X.K ds k)) (ha : k = true → PE X a (teD X.w X.K ds d)) (hb : k = false → PE X b (teD X.w X.K ds d)) : PE X (.IfExp c a b pos) (teD X.w X.K ds d) := by
  cases k with
  | true => exact pe_imp (pe_ifExp hc (ha rfl) pe_F) fun σ H Q q => ⟨q.1, fun H1 e1 => iteT ⟨q.1.up e1, fun u H2 e2 h2 => q.2 u H2 (e1.trans e2) h2⟩⟩
  | false => exact pe_imp (pe_ifExp hc pe_F (hb rfl)) fun σ H Q q => ⟨q.1, fun H1 e1 => iteF ⟨q.1.up e1, fun u H2 e2 h2 => q.2 u H2 (e1.trans e2) h2⟩⟩
/-- a <= b <= c of ints -/
theorem pd_chain {op op' : CmpOp} {r r' : R2} {c : Expr} {k k' : Bool} {d3 : PyData} (ho : OpR X (compareOp op) r) (ho' : OpR X (compareOp op') r') (h1 : OnD X.K r d1 d2 (.bool k)) (h2 : OnD X.K r' d2 d3 (.bool k'))
    (ha : PE X a (teD X.w X.K ds d1)) (hb : PE X b (teD X.w X.K ds d2)) (hc : PE X c (teD X.w X.K ds d3)) (hm : lastMarks [op, op'] [b, c] = false := by with_unfolding_all rfl) : PE X (.Compare a [op, op'] [b, c] pos) (teD X.w X.K ds (.bool (k && k'))) :=
  pe_imp (pe_chain ho ho' ha hb hc hm) fun σ H Q q => ⟨q.1, fun v H1 e1 g1 => ⟨q.1.up e1, fun w H2 e2 g2 => h1 v w H2 _ (g1.up e2) g2 fun u H3 e3 g3 => by
    cases g3
    refine ⟨k, rfl, ?_⟩
    cases k with
    | true => exact iteT ⟨q.1.up ((e1.trans e2).trans e3), fun z H4 e4 g4 => h2 w z H4 Q (g2.up (e3.trans e4)) g4 fun u H5 e5 g5 => q.2 u H5 ((((e1.trans e2).trans e3).trans e4).trans e5) g5⟩
    | false => exact iteF (q.2 _ H3 ((e1.trans e2).trans e3) (.bl _))⟩⟩
theorem pd_lele {c : Expr} {i j l : Int} (ha : PE X a (teD X.w X.K ds (.int i))) (hb : PE X b (teD X.w X.K ds (.int j))) (hc : PE X c (teD X.w X.K ds (.int l))) (hm : lastMarks [.LtE, .LtE] [b, c] = false := by with_unfolding_all rfl) :
    PE X (.Compare a [.LtE, .LtE] [b, c] pos) (teD X.w X.K ds (.bool (decide (i ≤ j) && decide (j ≤ l)))) := pd_chain op_le op_le on_bl0 on_bl0 ha hb hc hm
theorem pd_eqeq {c : Expr} {d3 : PyData} (ha : PE X a (teD X.w X.K ds d1)) (hb : PE X b (teD X.w X.K ds d2)) (hc : PE X c (teD X.w X.K ds d3)) (h1 : scD d1 d2 = true := by rfl) (h2 : scD d2 d3 = true := by rfl) (hm : lastMarks [.Eq, .Eq] [b, c] = false := by with_unfolding_all rfl) :
    PE X (.Compare a [.Eq, .Eq] [b, c] pos) (teD X.w X.K ds (.bool (PyData.eqv d1 d2 && PyData.eqv d2 d3))) := pd_chain op_eq op_eq (on_eq h1) (on_eq h2) ha hb hc hm
/-- the chain as a test -/
theorem pt_chain' {op op' : CmpOp} {r r' : R2} {c : Expr} {k k' : Bool} {d3 : PyData} (ho : OpR X (compareOp op) r) (ho' : OpR X (compareOp op') r') (h1 : OnD X.K r d1 d2 (.bool k)) (h2 : OnD X.K r' d2 d3 (.bool k'))
    (ha : PE X a (teD X.w X.K ds d1)) (hb : PE X b (teD X.w X.K ds d2)) (hc : PE X c (teD X.w X.K ds d3)) (hm : lastMarks [op, op'] [b, c] = false := by with_unfolding_all rfl) : PT X (.Compare a [op, op'] [b, c] pos) (ttD X.w X.K ds (k && k')) :=
  pt_imp (pt_chain ho ho' ha hb hc hm) fun σ H Q q => ⟨q.1, fun v H1 e1 g1 => ⟨q.1.up e1, fun w H2 e2 g2 => h1 v w H2 _ (g1.up e2) g2 fun u H3 e3 g3 => by
    cases g3
    refine ⟨k, rfl, ?_⟩
    cases k with
    | true => exact iteT ⟨q.1.up ((e1.trans e2).trans e3), fun z H4 e4 g4 => h2 w z H4 _ (g2.up (e3.trans e4)) g4 fun u H5 e5 g5 => by
        cases g5
        exact ⟨k', rfl, q.2 H5 ((((e1.trans e2).trans e3).trans e4).trans e5)⟩⟩
    | false => exact iteF ⟨false, rfl, q.2 H3 ((e1.trans e2).trans e3)⟩⟩⟩
theorem pt_lele {c : Expr} {i j l : Int} (ha : PE X a (teD X.w X.K ds (.int i))) (hb : PE X b (teD X.w X.K ds (.int j))) (hc : PE X c (teD X.w X.K ds (.int l))) (hm : lastMarks [.LtE, .LtE] [b, c] = false := by with_unfolding_all rfl) :
    PT X (.Compare a [.LtE, .LtE] [b, c] pos) (ttD X.w X.K ds (decide (i ≤ j) && decide (j ≤ l))) := pt_chain' op_le op_le on_bl0 on_bl0 ha hb hc hm
end
end G33
set_option Elab.async false
set_option linter.all false
set_option maxRecDepth 100000
set_option maxHeartbeats 1000000
namespace G33
open PySem PySem.Spec PyProof.Rows L2
section
variable {X : Cx} {ds : Ds} {d d1 d2 : PyData} {a b e : Expr} {es : List Expr} {pos p : Pos}
/-! ### arguments, displays -/
theorem ad_nil : PA X [] (taD X.w X.K ds []) := pa_imp pa_nil fun σ H Q q => q.2 [] H (Evl.Ex.refl H) .nil
theorem ad_cons {dl : List PyData} (ha : PE X e (teD X.w X.K ds d)) (hr : PA X es (taD X.w X.K ds dl)) (hs : starEach (e :: es) X.env = (false, eval e X.env) :: starEach es X.env := by rfl) : PA X (e :: es) (taD X.w X.K ds (d :: dl)) :=
  pa_imp (pa_cons ha hr hs) fun σ H Q q => ⟨q.1, fun v H1 e1 h1 => ⟨q.1.up e1, fun vs H2 e2 h2 => q.2 (v :: vs) H2 (e1.trans e2) (.cons (h1.up e2) h2)⟩⟩
theorem ad_star {dl xs : List PyData} (ha : PE X e (teD X.w X.K ds (.tuple xs))) (hr : PA X es (taD X.w X.K ds dl)) (hs : starEach (.Starred e p :: es) X.env = (true, eval e X.env) :: starEach es X.env := by rfl) : PA X (.Starred e p :: es) (taD X.w X.K ds (xs ++ dl)) :=
  pa_imp (StX.pa_star ha hr hs) fun σ H Q q => ⟨q.1, fun v H1 e1 h1 => by
    cases h1 with
    | tup hs ha => exact ⟨_, _, rfl, .inl hs, q.1.up e1, fun vs H2 e2 h2 => q.2 _ H2 (e1.trans e2) (dpa_append (ha.up e2) h2)⟩⟩
theorem pd_tup {dl : List PyData} {k} (h : PA X es (taD X.w X.K ds dl)) (hl : dl.length ≤ 100000) : PE X (.Tuple es k pos) (teD X.w X.K ds (.tuple dl)) :=
  pe_imp (pe_tup h) fun σ H Q q => ⟨q.1, fun vs H1 e1 h1 => ⟨by rw [dpa_len h1]; exact Evl.sz_of hl, fun p hp => q.2 _ _ (e1.trans (Evl.Ex.new hp)) (.tup (.inl (.inl upd_same)) (h1.up (Evl.Ex.new hp)))⟩⟩
theorem pd_lst {dl : List PyData} (h : PA X es (taD X.w X.K ds dl)) (hl : dl.length ≤ 100000) : PE X (.List es pos) (teD X.w X.K ds (.list dl)) :=
  pe_imp (pe_lst h) fun σ H Q q => ⟨q.1, fun vs H1 e1 h1 => ⟨by rw [dpa_len h1]; exact Evl.sz_of hl, fun p hp => q.2 _ _ (e1.trans (Evl.Ex.new hp)) (.lst (.inl (.inl upd_same)) (h1.up (Evl.Ex.new hp)))⟩⟩
/-! ### items, slices -/
theorem dpa_at {K : PySem.W.Frag} {H : Hp} {vs : List V} {xs : List PyData} {i : Int} (h : DpAll K H vs xs) (ha : atI xs i = some d) : ∃ v, atI vs i = some v ∧ Dp K H v d := by
  unfold atI at ha ⊢
  rw [dpa_len h]
  cases q : ixN xs.length i with
  | none => rw [q] at ha; cases ha
  | some j =>
    rw [q] at ha
    obtain ⟨v, a, b⟩ := dpa_get h (show xs[j]? = some d from ha)
    exact ⟨v, a, b⟩
theorem on_ixT {xs : List PyData} {i : Int} (ha : atI xs i = some d) : OnD X.K (rIxT X.K) (.tuple xs) (.int i) d := fun v w H Q h1 h2 g => by
  cases h2
  cases h1 with
  | tup hs hd =>
    obtain ⟨u, a, b⟩ := dpa_at hd ha
    exact ⟨_, _, i, u, rfl, rfl, hs, a, g.now b⟩
theorem on_ixL {xs : List PyData} {i : Int} (ha : atI xs i = some d) : OnD X.K (rIxL X.K) (.list xs) (.int i) d := fun v w H Q h1 h2 g => by
  cases h2
  cases h1 with
  | lst hs hd =>
    obtain ⟨u, a, b⟩ := dpa_at hd ha
    exact ⟨_, _, i, u, rfl, rfl, hs, a, g.now b⟩
theorem pd_ix {xs : List PyData} {i : Int} (h1 : PE X a (teD X.w X.K ds (.tuple xs))) (h2 : PE X b (teD X.w X.K ds (.int i))) (ha : atI xs i = some d) (hs : PlainIx b := by exact fun _ _ => rfl) : PE X (.Subscript a b pos) (teD X.w X.K ds d) :=
  pe_imp (pe_ix ix_tup h1 h2 hs) fun _ _ _ q => onD (ta := teD X.w X.K ds (.tuple xs)) (tb := teD X.w X.K ds (.int i)) (on_ixT ha) q
theorem pd_ixL {xs : List PyData} {i : Int} (h1 : PE X a (teD X.w X.K ds (.list xs))) (h2 : PE X b (teD X.w X.K ds (.int i))) (ha : atI xs i = some d) (hs : PlainIx b := by exact fun _ _ => rfl) : PE X (.Subscript a b pos) (teD X.w X.K ds d) :=
  pe_imp (pe_ix ix_list h1 h2 hs) fun _ _ _ q => onD (ta := teD X.w X.K ds (.list xs)) (tb := teD X.w X.K ds (.int i)) (on_ixL ha) q
theorem od_none : PO X none (toD X.w X.K ds none) := po_imp po_none fun σ H Q q => q.2 H (Evl.Ex.refl H)
theorem od_some {i : Int} (h : PE X e (teD X.w X.K ds (.int i))) : PO X (some e) (toD X.w X.K ds (some i)) := po_imp (po_some h) fun σ H Q q => ⟨q.1, fun v H1 e1 h1 => by cases h1; exact ⟨i, rfl, q.2 H1 e1⟩⟩
/-- the items from lo to hi -/
def cutD {α : Type} (xs : List α) (lo hi : Option Int) : List α := (xs.drop (HT.sIx xs.length 0 lo)).take (HT.sIx xs.length xs.length hi - HT.sIx xs.length 0 lo)
theorem dpa_cut {K : PySem.W.Frag} {H : Hp} {vs : List V} {xs : List PyData} (h : DpAll K H vs xs) (lo hi : Option Int) : DpAll K H (cutV vs lo hi) (cutD xs lo hi) := by
  unfold cutV cutD
  rw [dpa_len h]
  exact dpa_take _ (dpa_drop _ h)
theorem pd_sl {xs : List PyData} {lo hi : Option Expr} {l u : Option Int} {p2 : Pos} (h : PE X e (teD X.w X.K ds (.tuple xs))) (hl : PO X lo (toD X.w X.K ds l)) (hu : PO X hi (toD X.w X.K ds u)) : PE X (.Subscript e (.Slice lo hi none p2) pos) (teD X.w X.K ds (.tuple (cutD xs l u))) :=
  pe_imp (pe_slice sl_tupA h hl hu) fun σ H Q q => ⟨q.1, fun v H1 e1 h1 => ⟨q.1.up e1, fun H2 e2 => ⟨q.1.up (e1.trans e2), fun H3 e3 => by
    have h3 := (h1.up e2).up e3
    have e := (e1.trans e2).trans e3
    cases h3 with
    | tup hs hd =>
      have hl := dpa_len hd
      refine ⟨_, _, rfl, hs, fun hw => ?_, fun _ p hp => q.2 _ _ (e.trans (Evl.Ex.new hp)) (.tup (.inl (.inl upd_same)) ((dpa_cut hd l u).up (Evl.Ex.new hp)))⟩
      refine q.2 _ _ e (.tup hs ?_)
      rw [hl] at hw
      have ec : cutD xs l u = xs := by
        unfold cutD
        rw [hw.1, hw.2]
        simp
      rw [ec]
      exact hd⟩⟩⟩
theorem pd_rev {xs : List PyData} {k : Nat} {p1 p2 p3 : Pos} (h : PE X e (teD X.w X.K ds (.list xs))) : PE X (.Subscript e (.Slice none none (some (.UnaryOp .USub (.Constant (.int 1) k p1) p2)) p3) pos) (teD X.w X.K ds (.list xs.reverse)) :=
  pe_imp (pe_revL h) fun σ H Q q => ⟨q.1, fun v H1 e1 h1 => by
    cases h1 with
    | lst hs hd => exact ⟨_, _, rfl, hs, fun p hp => q.2 _ _ (e1.trans (Evl.Ex.new hp)) (.lst (.inl (.inl upd_same)) ((dpa_rev hd).up (Evl.Ex.new hp)))⟩⟩
/-! ### tuples, lists by operators -/
theorem pd_catT {xs ys : List PyData} (h1 : PE X a (teD X.w X.K ds (.tuple xs))) (h2 : PE X b (teD X.w X.K ds (.tuple ys))) (hl : xs.length + ys.length ≤ 100000) : PE X (.BinOp a .Add b pos) (teD X.w X.K ds (.tuple (xs ++ ys))) :=
  pd_op op_catA (fun v w H Q a b g => by
    cases a with
    | tup hs hd =>
      cases b with
      | tup ht he =>
        refine ⟨_, _, _, _, rfl, rfl, hs, ht, by rw [dpa_len hd, dpa_len he]; exact Evl.sz_of hl, fun z => ?_, fun _ z => ?_, fun _ _ => g.new (dpa_append hd he)⟩
        · subst z
          have : xs = [] := List.eq_nil_of_length_eq_zero (dpa_len hd).symm
          subst this
          exact g.now (.tup ht he)
        · subst z
          have : ys = [] := List.eq_nil_of_length_eq_zero (dpa_len he).symm
          subst this
          rw [List.append_nil] at g
          exact g.now (.tup hs hd)) h1 h2
theorem pd_repT {xs : List PyData} {k : Int} (h1 : PE X a (teD X.w X.K ds (.tuple xs))) (h2 : PE X b (teD X.w X.K ds (.int k))) (hn : xs ≠ []) (hk : 2 ≤ k) (hk2 : k ≤ 1000) (hl : xs.length ≤ 1000) : PE X (.BinOp a .Mult b pos) (teD X.w X.K ds (.tuple (List.replicate k.toNat xs).flatten)) :=
  pd_op op_repT (fun v w H Q a b g => by
    cases b
    cases a with
    | tup hs hd =>
      refine ⟨_, k, _, rfl, rfl, hs, fun z => hn ?_, hk, hk2, by rw [dpa_len hd]; exact hl, g.new (dpa_rep hd _)⟩
      subst z
      exact List.eq_nil_of_length_eq_zero (dpa_len hd).symm) h1 h2
/-! ### built-ins by their names -/
def OnC (K : PySem.W.Frag) (r : List V → Hp → VK → Prop) (dl : List PyData) (d : PyData) : Prop := ∀ vs H (Q : VK), DpAll K H vs dl → Gives K d H Q → r vs H Q
theorem onC {r : List V → Hp → VK → Prop} {dl : List PyData} {σ : L2.St} {H : Hp} {Q : VK} (hr : OnC X.K r dl d) (q : teD X.w X.K ds d σ H Q) : taD X.w X.K ds dl σ H fun vs H1 => r vs H1 Q :=
  ⟨q.1, fun vs H1 e1 h1 => hr vs H1 Q h1 fun u H2 e2 h2 => q.2 u H2 (e1.trans e2) h2⟩
theorem pd_callB {x : Str} {id : String} {r : List V → Hp → VK → Prop} {dl : List PyData} (hc : CallR X (.builtin id) r) (hr : OnC X.K r dl d) (hm : X.mg x = none) (ha : PA X (e :: es) (taD X.w X.K ds dl)) (hg : Gl X x := by rfl) (hv : bootBuiltins x = some (.builtin id) := by decide +kernel)
    (hn : x ≠ "__name__" := by decide) (hdb : (x == ("__debug__" : Str)) = false := by decide) (he : starEach (e :: es) X.env = (false, eval e X.env) :: starEach es X.env := by rfl) (hpl : (backTo pos (starEach es X.env)).any (·.1) = false := by rfl) :
    PE X (.Call (.Name x p) (e :: es) [] pos) (teD X.w X.K ds d) := pe_imp (pe_callB hc hg hm hv ha hn hdb he hpl) fun _ _ _ q => onC hr q
theorem pd_callT {x : Str} {T : String} {r : List V → Hp → VK → Prop} {dl : List PyData} (hc : CallR X (.type T) r) (hr : OnC X.K r dl d) (hm : X.mg x = none) (ha : PA X (e :: es) (taD X.w X.K ds dl)) (hg : Gl X x := by rfl) (hv : bootBuiltins x = some (.type T) := by decide +kernel)
    (hn : x ≠ "__name__" := by decide) (hdb : (x == ("__debug__" : Str)) = false := by decide) (he : starEach (e :: es) X.env = (false, eval e X.env) :: starEach es X.env := by rfl) (hpl : (backTo pos (starEach es X.env)).any (·.1) = false := by rfl) :
    PE X (.Call (.Name x p) (e :: es) [] pos) (teD X.w X.K ds d) := pe_imp (pe_callTy hc hg hm hv ha hn hdb he hpl) fun _ _ _ q => onC hr q
theorem dpa1 {K : PySem.W.Frag} {H : Hp} {vs : List V} (h : DpAll K H vs [d]) : ∃ v, vs = [v] ∧ Dp K H v d := by
  cases h with
  | cons h1 h2 => cases h2; exact ⟨_, rfl, h1⟩
theorem dpa2 {K : PySem.W.Frag} {H : Hp} {vs : List V} (h : DpAll K H vs [d1, d2]) : ∃ v w, vs = [v, w] ∧ Dp K H v d1 ∧ Dp K H w d2 := by
  cases h with
  | cons h1 h2 =>
    obtain ⟨w, rfl, h3⟩ := dpa1 h2
    exact ⟨_, w, rfl, h1, h3⟩
theorem pd_len {xs : List PyData} (hm : X.mg "len" = none) (ha : PE X e (teD X.w X.K ds (.tuple xs))) (hg : Gl X "len" := by rfl) (he : starEach [e] X.env = (false, eval e X.env) :: starEach [] X.env := by rfl) : PE X (.Call (.Name "len" p) [e] [] pos) (teD X.w X.K ds (.int xs.length)) :=
  pd_callB (dl := [.tuple xs]) call_len_seq (fun vs H Q h g => by
    obtain ⟨v, rfl, hv⟩ := dpa1 h
    cases hv with
    | tup hs hd => exact ⟨_, _, rfl, .inr hs, by rw [dpa_len hd]; exact g.now (.int _)⟩) hm (ad_cons ha ad_nil he) hg (by decide +kernel) (by decide) (by decide) he
theorem pd_lenL {xs : List PyData} (hm : X.mg "len" = none) (ha : PE X e (teD X.w X.K ds (.list xs))) (hg : Gl X "len" := by rfl) (he : starEach [e] X.env = (false, eval e X.env) :: starEach [] X.env := by rfl) : PE X (.Call (.Name "len" p) [e] [] pos) (teD X.w X.K ds (.int xs.length)) :=
  pd_callB (dl := [.list xs]) call_len_seq (fun vs H Q h g => by
    obtain ⟨v, rfl, hv⟩ := dpa1 h
    cases hv with
    | lst hs hd => exact ⟨_, _, rfl, .inl hs, by rw [dpa_len hd]; exact g.now (.int _)⟩) hm (ad_cons ha ad_nil he) hg (by decide +kernel) (by decide) (by decide) he
theorem pd_sum {ns : List Int} (hc : X.calm = true) (hm : X.mg "sum" = none) (ha : PE X e (teD X.w X.K ds (.list (ns.map .int)))) (hg : Gl X "sum" := by rfl) (he : starEach [e] X.env = (false, eval e X.env) :: starEach [] X.env := by rfl) : PE X (.Call (.Name "sum" p) [e] [] pos) (teD X.w X.K ds (.int ns.sum)) :=
  pd_callB (dl := [.list (ns.map .int)]) (cr_sum hc) (fun vs H Q h g => by
    obtain ⟨v, rfl, hv⟩ := dpa1 h
    cases hv with
    | lst hs hd => exact ⟨_, ns, rfl, by rw [← dpa_ints hd]; exact hs, g.now (.int _)⟩) hm (ad_cons ha ad_nil he) hg (by decide +kernel) (by decide) (by decide) he
theorem pd_all {ns : List Bool} (hc : X.calm = true) (hm : X.mg "all" = none) (ha : PE X e (teD X.w X.K ds (.list (ns.map .bool)))) (hg : Gl X "all" := by rfl) (he : starEach [e] X.env = (false, eval e X.env) :: starEach [] X.env := by rfl) : PE X (.Call (.Name "all" p) [e] [] pos) (teD X.w X.K ds (.bool (ns.all id))) :=
  pd_callB (dl := [.list (ns.map .bool)]) (cr_all hc) (fun vs H Q h g => by
    obtain ⟨v, rfl, hv⟩ := dpa1 h
    cases hv with
    | lst hs hd => exact ⟨_, ns, rfl, by rw [← dpa_bools hd]; exact hs, g.now (.bl _)⟩) hm (ad_cons ha ad_nil he) hg (by decide +kernel) (by decide) (by decide) he
/-- the least, the greatest of some ints -/
theorem least_one {m m' : Int} {ns : List Int} (h : m ∈ ns) (h1 : ∀ y, y ∈ ns → m ≤ y) (h' : m' ∈ ns) (h1' : ∀ y, y ∈ ns → m' ≤ y) : m = m' := Int.le_antisymm (h1 _ h') (h1' _ h)
theorem pd_min {ns : List Int} {m : Int} (hc : X.calm = true) (hm : X.mg "min" = none) (h1 : m ∈ ns) (h2 : ∀ y, y ∈ ns → m ≤ y) (ha : PE X e (teD X.w X.K ds (.list (ns.map .int)))) (hg : Gl X "min" := by rfl) (he : starEach [e] X.env = (false, eval e X.env) :: starEach [] X.env := by rfl) : PE X (.Call (.Name "min" p) [e] [] pos) (teD X.w X.K ds (.int m)) :=
  pd_callB (dl := [.list (ns.map .int)]) (cr_min hc) (fun vs H Q h g => by
    obtain ⟨v, rfl, hv⟩ := dpa1 h
    cases hv with
    | lst hs hd => exact ⟨_, ns, rfl, by rw [← dpa_ints hd]; exact hs, List.length_pos_of_mem h1, fun m' a b => by rw [Int.le_antisymm (b _ h1) (h2 _ a)]; exact g.now (.int _)⟩) hm (ad_cons ha ad_nil he) hg (by decide +kernel) (by decide) (by decide) he
theorem pd_max {ns : List Int} {m : Int} (hc : X.calm = true) (hm : X.mg "max" = none) (h1 : m ∈ ns) (h2 : ∀ y, y ∈ ns → y ≤ m) (ha : PE X e (teD X.w X.K ds (.list (ns.map .int)))) (hg : Gl X "max" := by rfl) (he : starEach [e] X.env = (false, eval e X.env) :: starEach [] X.env := by rfl) : PE X (.Call (.Name "max" p) [e] [] pos) (teD X.w X.K ds (.int m)) :=
  pd_callB (dl := [.list (ns.map .int)]) (cr_max hc) (fun vs H Q h g => by
    obtain ⟨v, rfl, hv⟩ := dpa1 h
    cases hv with
    | lst hs hd => exact ⟨_, ns, rfl, by rw [← dpa_ints hd]; exact hs, List.length_pos_of_mem h1, fun m' a b => by rw [Int.le_antisymm (h2 _ a) (b _ h1)]; exact g.now (.int _)⟩) hm (ad_cons ha ad_nil he) hg (by decide +kernel) (by decide) (by decide) he
theorem pd_max2 {i j : Int} (hc : X.calm = true) (hm : X.mg "max" = none) (ha : PE X a (teD X.w X.K ds (.int i))) (hb : PE X b (teD X.w X.K ds (.int j))) (hg : Gl X "max" := by rfl) (he : starEach [a, b] X.env = (false, eval a X.env) :: starEach [b] X.env := by rfl) (he2 : starEach [b] X.env = (false, eval b X.env) :: starEach [] X.env := by rfl)
    (hpl : (backTo pos (starEach [b] X.env)).any (·.1) = false := by rfl) : PE X (.Call (.Name "max" p) [a, b] [] pos) (teD X.w X.K ds (.int (max i j))) :=
  pd_callB (dl := [.int i, .int j]) (call_max2 hc) (fun vs H Q h g => by
    obtain ⟨v, w, rfl, h1, h2⟩ := dpa2 h
    cases h1
    cases h2
    refine ⟨i, j, rfl, ?_⟩
    have e : (if j > i then j else i) = max i j := by
      by_cases q : j > i
      · rw [if_pos q]; omega
      · rw [if_neg q]; omega
    rw [e]
    exact g.now (.int _)) hm (ad_cons ha (ad_cons hb ad_nil he2) he) hg (by decide +kernel) (by decide) (by decide) he hpl
theorem pd_min2 {i j : Int} (hc : X.calm = true) (hm : X.mg "min" = none) (ha : PE X a (teD X.w X.K ds (.int i))) (hb : PE X b (teD X.w X.K ds (.int j))) (hg : Gl X "min" := by rfl) (he : starEach [a, b] X.env = (false, eval a X.env) :: starEach [b] X.env := by rfl) (he2 : starEach [b] X.env = (false, eval b X.env) :: starEach [] X.env := by rfl)
    (hpl : (backTo pos (starEach [b] X.env)).any (·.1) = false := by rfl) : PE X (.Call (.Name "min" p) [a, b] [] pos) (teD X.w X.K ds (.int (min i j))) :=
  pd_callB (dl := [.int i, .int j]) (call_min2 hc) (fun vs H Q h g => by
    obtain ⟨v, w, rfl, h1, h2⟩ := dpa2 h
    cases h1
    cases h2
    refine ⟨i, j, rfl, ?_⟩
    have e : (if j < i then j else i) = min i j := by
      by_cases q : j < i
      · rw [if_pos q]; omega
      · rw [if_neg q]; omega
    rw [e]
    exact g.now (.int _)) hm (ad_cons ha (ad_cons hb ad_nil he2) he) hg (by decide +kernel) (by decide) (by decide) he hpl
theorem pd_toInt {i : Int} (hm : X.mg "int" = none) (ha : PE X e (teD X.w X.K ds (.int i))) (hg : Gl X "int" := by rfl) (he : starEach [e] X.env = (false, eval e X.env) :: starEach [] X.env := by rfl) : PE X (.Call (.Name "int" p) [e] [] pos) (teD X.w X.K ds (.int i)) :=
  pd_callT (dl := [.int i]) call_int1 (fun vs H Q h g => by
    obtain ⟨v, rfl, hv⟩ := dpa1 h
    cases hv
    exact .inl ⟨i, rfl, g.now (.int _)⟩) hm (ad_cons ha ad_nil he) hg (by decide +kernel) (by decide) (by decide) he
theorem pd_toIntB {i : Bool} (hm : X.mg "int" = none) (ha : PE X e (teD X.w X.K ds (.bool i))) (hg : Gl X "int" := by rfl) (he : starEach [e] X.env = (false, eval e X.env) :: starEach [] X.env := by rfl) : PE X (.Call (.Name "int" p) [e] [] pos) (teD X.w X.K ds (.int (if i then 1 else 0))) :=
  pd_callT (dl := [.bool i]) call_int1 (fun vs H Q h g => by
    obtain ⟨v, rfl, hv⟩ := dpa1 h
    cases hv
    exact .inr ⟨i, rfl, g.now (.int _)⟩) hm (ad_cons ha ad_nil he) hg (by decide +kernel) (by decide) (by decide) he
theorem pd_list {xs : List PyData} (hm : X.mg "list" = none) (ha : PE X e (teD X.w X.K ds d)) (hd : d = .list xs ∨ d = .tuple xs) (hg : Gl X "list" := by rfl) (he : starEach [e] X.env = (false, eval e X.env) :: starEach [] X.env := by rfl) : PE X (.Call (.Name "list" p) [e] [] pos) (teD X.w X.K ds (.list xs)) :=
  pd_callT (dl := [d]) call_list_of (fun vs H Q h g => by
    obtain ⟨v, rfl, hv⟩ := dpa1 h
    rcases hd with rfl | rfl
    · cases hv with
      | lst hs hd => exact ⟨_, _, rfl, .inl hs, g.newL hd⟩
    · cases hv with
      | tup hs hd => exact ⟨_, _, rfl, .inr hs, g.newL hd⟩) hm (ad_cons ha ad_nil he) hg (by decide +kernel) (by decide) (by decide) he
theorem pd_tuple {xs : List PyData} (hm : X.mg "tuple" = none) (ha : PE X e (teD X.w X.K ds d)) (hd : d = .list xs ∨ d = .tuple xs) (hg : Gl X "tuple" := by rfl) (he : starEach [e] X.env = (false, eval e X.env) :: starEach [] X.env := by rfl) : PE X (.Call (.Name "tuple" p) [e] [] pos) (teD X.w X.K ds (.tuple xs)) :=
  pd_callT (dl := [d]) call_tuple_of (fun vs H Q h g => by
    obtain ⟨v, rfl, hv⟩ := dpa1 h
    rcases hd with rfl | rfl
    · cases hv with
      | lst hs hd => exact ⟨_, _, rfl, .inl ⟨hs, g.new hd⟩⟩
    · cases hv with
      | tup hs hd => exact ⟨_, _, rfl, .inr ⟨hs, g.now (.tup hs hd)⟩⟩) hm (ad_cons ha ad_nil he) hg (by decide +kernel) (by decide) (by decide) he
/-- list(range(a, b)) -/
def rgD (i j : Int) : List Int := (List.range (j - i).toNat).map fun n => i + (n : Nat)
theorem rgV_eq (i j : Int) : rgV i j = (rgD i j).map V.int := by
  unfold rgV rgD
  rw [List.map_map]
  rfl
theorem pd_listRg {i j : Int} {p2 p3 : Pos} (hc : X.calm = true) (hml : X.mg "list" = none) (hmr : X.mg "range" = none) (ha : PE X a (teD X.w X.K ds (.int i))) (hb : PE X b (teD X.w X.K ds (.int j))) (hk : RgOk i j) (hgl : Gl X "list" := by rfl) (hgr : Gl X "range" := by rfl)
    (na : starEach [a, b] X.env = (false, eval a X.env) :: starEach [b] X.env := by rfl) (nb : starEach [b] X.env = (false, eval b X.env) :: starEach [] X.env := by rfl) (hpr : (backTo p3 (starEach [b] X.env)).any (·.1) = false := by rfl) (nl : starEach [.Call (.Name "range" p2) [a, b] [] p3] X.env = (false, eval (.Call (.Name "range" p2) [a, b] [] p3) X.env) :: starEach [] X.env := by rfl) :
    PE X (.Call (.Name "list" p) [.Call (.Name "range" p2) [a, b] [] p3] [] pos) (teD X.w X.K ds (.list ((rgD i j).map .int))) :=
  pe_imp (pe_listRg hc hgl hml (prg_2 hgr hmr ha hb na nb hpr) nl) fun σ H Q q => ⟨q.1, fun v H1 e1 h1 => ⟨q.1.up e1, fun w H2 e2 h2 => by
    have h1 := h1.up e2
    cases h1
    cases h2
    exact ⟨i, j, rfl, rfl, hk, fun r hr => q.2 _ _ ((e1.trans e2).trans (Evl.Ex.new hr)) (.lst (.inl (.inl upd_same)) (by rw [rgV_eq]; exact ints_dpa _))⟩⟩⟩
/-! isinstance -/
def tyn : PyData → String
  | .none => "NoneType" | .bool _ => "bool" | .int _ => "int" | .str _ => "str" | .list _ => "list" | .tuple _ => "tuple" | .dict _ => "dict"
theorem tyx_of {K : PySem.W.Frag} {H : Hp} {v : V} (h : Dp K H v d) : TyX K H v (.type (tyn d)) := by
  cases h with
  | non => exact .base .non
  | bl b => exact .base (.bl b)
  | int i => exact .base (.int i)
  | str x => exact .base (.str x)
  | lst hs _ =>
    rcases hs with (h | ⟨o, h⟩) | ⟨o, its, n, hk, hc, _⟩
    · exact .base (.lst h)
    · exact .base (.frz h)
    · exact .kList hk hc
  | tup hs _ =>
    rcases hs with (h | ⟨o, h⟩) | ⟨o, its, n, hk, hc, _⟩
    · exact .base (.tup h)
    · exact .fTuple h
    · exact .kTuple hk hc
theorem pd_isi {x T : Str} {t : String} {k : Bool} {pT : Pos} (hm : X.mg "isinstance" = none) (hT : X.mg T = none) (hv : bootBuiltins T = some (.type t)) (hk : kitB (tyn d) t = some k) (ha : PE X e (teD X.w X.K ds d)) (hg : Gl X "isinstance" := by rfl) (hgT : Gl X T := by rfl) (hnT : T ≠ "__name__" := by decide) (hdT : (T == ("__debug__" : Str)) = false := by decide)
    (he : starEach [e, .Name T pT] X.env = (false, eval e X.env) :: starEach [.Name T pT] X.env := by rfl) (hpl : (backTo pos (starEach [.Name T pT] X.env)).any (·.1) = false := by rfl) : PE X (.Call (.Name "isinstance" p) [e, .Name T pT] [] pos) (teD X.w X.K ds (.bool k)) :=
  pe_imp (pe_callB call_isi hg hm (by decide +kernel) (pa_cons ha (pa_cons (pe_bltn (v := .ty t) hgT hT hv rfl hnT hdT) pa_nil) he) (by decide) (by decide) he hpl) fun σ H Q q =>
    ⟨q.1, fun v H1 e1 h1 => ⟨v, .ty t, .type (tyn d), .type t, k, rfl, .ty t, tyx_of h1, kit_ty hk, q.2 _ H1 e1 (.bl _)⟩⟩
/-- isinstance(e, (T, U)) -/
theorem pd_isi2 {T U : Str} {t u : String} {k1 k2 : Bool} {pT pU pt : Pos} {kk} (hm : X.mg "isinstance" = none) (hT : X.mg T = none) (hU : X.mg U = none) (hv : bootBuiltins T = some (.type t)) (hw : bootBuiltins U = some (.type u)) (hk : kitB (tyn d) t = some k1) (hk2 : kitB (tyn d) u = some k2) (ha : PE X e (teD X.w X.K ds d))
    (hg : Gl X "isinstance" := by rfl) (hgT : Gl X T := by rfl) (hgU : Gl X U := by rfl) (hnT : T ≠ "__name__" := by decide) (hdT : (T == ("__debug__" : Str)) = false := by decide) (hnU : U ≠ "__name__" := by decide) (hdU : (U == ("__debug__" : Str)) = false := by decide)
    (he : starEach [e, .Tuple [.Name T pT, .Name U pU] kk pt] X.env = (false, eval e X.env) :: starEach [.Tuple [.Name T pT, .Name U pU] kk pt] X.env := by rfl) (hpl : (backTo pos (starEach [.Tuple [.Name T pT, .Name U pU] kk pt] X.env)).any (·.1) = false := by rfl) : PE X (.Call (.Name "isinstance" p) [e, .Tuple [.Name T pT, .Name U pU] kk pt] [] pos) (teD X.w X.K ds (.bool (k1 || k2))) :=
  pe_imp (pe_callB call_isiT hg hm (by decide +kernel) (pa_cons ha (pa_cons (pe_tup (pa_cons (pe_bltn (v := .ty t) hgT hT hv rfl hnT hdT) (pa_cons (pe_bltn (v := .ty u) hgU hU hw rfl hnU hdU) pa_nil))) pa_nil) he) (by decide) (by decide) he hpl) fun σ H Q q =>
    ⟨q.1, fun v H1 e1 h1 => ⟨by show 2 ≤ sizeLine; decide, fun r hr => ⟨v, r, [.ty t, .ty u], .type (tyn d), [.type t, .type u], (k1 || k2), rfl, upd_same, .cons (.ty t) (.cons (.ty u) .nil), tyx_of (h1.up (Evl.Ex.new hr)),
      kitAny_cons (kit_ty hk) (fun h => kitAny_cons (kit_ty hk2) (fun h' => by rw [h, h']; exact kitAny_nil) fun h' => by rw [h, h']; rfl) fun h => by rw [h]; rfl, q.2 _ _ (e1.trans (Evl.Ex.new hr)) (.bl _)⟩⟩⟩
/-! ### calls of the text's own defs -/
/-- a promise by data: what is asked of the arguments' data and the answer's -/
def spD (K : PySem.W.Frag) (n : Nat) (R : List PyData → PyData → Prop) : Sp := fun vs H Q _ => ∃ dl d, R dl d ∧ dl.length = n ∧ DpAll K H vs dl ∧ Gives K d H Q
theorem pd_call {k : Nat} {f : Addr} {fd : FuncData} {ps : List Str} {R : List PyData → PyData → Prop} {n : Nat} {x : Str} {dl : List PyData} (F : FnOk X.prog X.w X.K X.mg X.base CX0 k f fd ps (spD X.K n R)) (hr : Room k X.A) (hm : X.mg x = some (.ref f)) (hk : PySem.W.keepIn X.K (.ref f) = true) (hb : Binds X.K fd ps [])
    (ha : PA X (e :: es) (taD X.w X.K ds dl)) (hR : R dl d) (hn : dl.length = n := by rfl) (hg : Gl X x := by rfl) (hdb : (x == ("__debug__" : Str)) = false := by decide) (he : starEach (e :: es) X.env = (false, eval e X.env) :: starEach es X.env := by rfl) (hpl : (backTo pos (starEach es X.env)).any (·.1) = false := by rfl) :
    PE X (.Call (.Name x p) (e :: es) [] pos) (teD X.w X.K ds d) :=
  pe_imp (pe_call F hr hg hm hk hb .nil pass0 ha hdb he hpl) fun σ H Q q => ⟨q.1, fun vs H1 e1 h1 => ⟨dl, d, hR, hn, by rw [List.append_nil]; exact h1, fun u H2 e2 h2 => q.2 u H2 (e1.trans e2) h2⟩⟩
end
/-! ### statements -/
section
variable {X : Cx} {st : Stmt} {rest : List Stmt} {pos pos' : Pos} {x : Str} {e : Expr}
theorem ps_imp {t t' : TS} (h : PS X st t) (w : ∀ D σ H, t' D σ H → t D σ H) : PS X st t' := ⟨fun pins s σ H D I q => h.run pins s σ H D I (w D σ H q)⟩
theorem pss_imp {sts : List Stmt} {t t' : TS} (h : PSs X sts t) (w : ∀ D σ H, t' D σ H → t D σ H) : PSs X sts t' := ⟨fun pins s σ H D I q => h.run pins s σ H D I (w D σ H q)⟩
/-- {P} code {N, or R at a return} -/
def tH (P : L2.St → Hp → Prop) (N : L2.St → Hp → Prop) (R : V → Hp → Prop) : TS := fun D σ H => P σ H ∧ (∀ σ' H', N σ' H' → D.nx σ' H') ∧ ∀ v H', R v H' → D.rt v H'
variable {P N M : L2.St → Hp → Prop} {R : V → Hp → Prop}
theorem hs_cons (h1 : PS X st (tH P M R)) (h2 : PSs X rest (tH M N R)) : PSs X (st :: rest) (tH P N R) :=
  pss_imp (pss_cons h1 h2) fun D σ H q => ⟨q.1, fun σ' H' m => ⟨m, q.2.1, q.2.2⟩, q.2.2⟩
theorem hs_one (h1 : PS X st (tH P N R)) : PSs X [st] (tH P N R) := pss_one h1
theorem hs_nil : PSs X [] (tH P P R) := pss_imp pss_nil fun D σ H q => q.2.1 σ H q.1
theorem hs_conseq {P' N' : L2.St → Hp → Prop} {sts : List Stmt} (h : PSs X sts (tH P N R)) (hp : ∀ σ H, P' σ H → P σ H) (hn : ∀ σ H, N σ H → N' σ H) : PSs X sts (tH P' N' R) :=
  pss_imp h fun D σ H q => ⟨hp σ H q.1, fun σ' H' n => q.2.1 σ' H' (hn σ' H' n), q.2.2⟩
theorem hp_conseq {P' N' : L2.St → Hp → Prop} (h : PS X st (tH P N R)) (hp : ∀ σ H, P' σ H → P σ H) (hn : ∀ σ H, N σ H → N' σ H) : PS X st (tH P' N' R) :=
  ps_imp h fun D σ H q => ⟨hp σ H q.1, fun σ' H' n => q.2.1 σ' H' (hn σ' H' n), q.2.2⟩
theorem hs_ex {ι : Sort _} {P : ι → L2.St → Hp → Prop} {sts : List Stmt} (h : ∀ i, PSs X sts (tH (P i) N R)) : PSs X sts (tH (fun σ H => ∃ i, P i σ H) N R) :=
  ⟨fun pins s σ H D I ⟨⟨i, p⟩, q⟩ => (h i).run pins s σ H D I ⟨p, q⟩⟩
theorem hs_pre {sts : List Stmt} (h : ∀ σ H, P σ H → PSs X sts (tH (fun σ' H' => σ' = σ ∧ H' = H) N R)) : PSs X sts (tH P N R) :=
  ⟨fun pins s σ H D I ⟨p, q⟩ => (h σ H p).run pins s σ H D I ⟨⟨rfl, rfl⟩, q⟩⟩
/-- x = e, by data -/
theorem hs_asg {ds : Ds} {d : PyData} (i : Nat) (hN : X.N.Nodup) (he : PE X e (teD X.w X.K ds d)) (hL : ∀ σ H, P σ H → Lc X.w X.K H σ ds) (hn : ∀ σ H v H', P σ H → Ex H H' → Dp X.K H' v d → N (σ.set i (some v)) H') (hi : X.N[i]? = some x := by rfl) (hx : Loc X.env.scope x := by first | exact .inl rfl | exact .inr rfl)
    (hs : swapsWith e (some (.Name x pos')) pos.line X.env = Pure.pure false := by rfl) (hf : X.fn x = true ∨ X.env.scope.names.lookup x = some .local := by first | exact .inl rfl | exact .inr rfl) : PS X (.Assign [.Name x pos'] e pos) (tH P N R) :=
  ps_imp (ps_set hN hi hx he hs hf) fun D σ H q => ⟨hL σ H q.1, fun v H' e1 h1 => q.2.1 _ _ (hn σ H v H' q.1 e1 h1)⟩
theorem hs_ret {ds : Ds} {d : PyData} (he : PE X e (teD X.w X.K ds d)) (hL : ∀ σ H, P σ H → Lc X.w X.K H σ ds) (hn : ∀ σ H v H', P σ H → Ex H H' → Dp X.K H' v d → R v H') : PS X (.Return (some e) pos) (tH P N R) :=
  ps_imp (ps_ret he) fun D σ H q => ⟨hL σ H q.1, fun v H' e1 h1 => q.2.2 _ _ (hn σ H v H' q.1 e1 h1)⟩
theorem hs_if {ds : Ds} {k : Bool} {c : Expr} {as bs : List Stmt} (hc : PT X c (ttD X.w X.K ds k)) (hL : ∀ σ H, P σ H → Lc X.w X.K H σ ds) (hP : ∀ σ H H', P σ H → Ex H H' → P σ H') (ha : k = true → PSs X as (tH P N R)) (hb : k = false → PSs X bs (tH P N R)) : PS X (.If c as bs pos) (tH P N R) := by
  cases k with
  | true => exact ps_imp (ps_if hc (ha rfl) pss_never) fun D σ H q => ⟨hL σ H q.1, fun H' e => iteT ⟨hP σ H H' q.1 e, q.2⟩⟩
  | false => exact ps_imp (ps_if hc pss_never (hb rfl)) fun D σ H q => ⟨hL σ H q.1, fun H' e => iteF ⟨hP σ H H' q.1 e, q.2⟩⟩
/-! straight code by data: it gives d -/
def tR (w : World) (K : PySem.W.Frag) (ds : Ds) (d : PyData) : TS := fun D σ H => Lc w K H σ ds ∧ ∀ v H', Ex H H' → Dp K H' v d → D.rt v H'
variable {ds : Ds} {d d1 d2 d3 : PyData}
theorem sr_eq {sts : List Stmt} (h : PSs X sts (tR X.w X.K ds d1)) (q : d1 = d) : PSs X sts (tR X.w X.K ds d) := q ▸ h
theorem sr_asg (i : Nat) (hN : X.N.Nodup) (he : PE X e (teD X.w X.K ds d1)) (hr : PSs X rest (tR X.w X.K (ds.set i (some d1)) d)) (hi : X.N[i]? = some x := by rfl) (hx : Loc X.env.scope x := by first | exact .inl rfl | exact .inr rfl)
    (hs : swapsWith e (some (.Name x pos')) pos.line X.env = Pure.pure false := by rfl) (hf : X.fn x = true ∨ X.env.scope.names.lookup x = some .local := by first | exact .inl rfl | exact .inr rfl) : PSs X (.Assign [.Name x pos'] e pos :: rest) (tR X.w X.K ds d) :=
  pss_imp (pss_cons (ps_set hN hi hx he hs hf) hr) fun D σ H q => ⟨q.1, fun v H1 e1 h1 => ⟨(q.1.up e1).set i h1, fun u H2 e2 h2 => q.2 u H2 (e1.trans e2) h2⟩⟩
theorem sr_ret (he : PE X e (teD X.w X.K ds d)) : PSs X [.Return (some e) pos] (tR X.w X.K ds d) := pss_imp (pss_one (ps_ret he)) fun D σ H q => q
theorem sr_retN : PSs X [.Return none pos] (tR X.w X.K ds .none) := pss_imp (pss_one ps_retN) fun D σ H q => q.2 _ H (Evl.Ex.refl H) .non
/-- a value dropped -/
theorem sr_expr (he : PE X e (teD X.w X.K ds d1)) (hr : PSs X rest (tR X.w X.K ds d)) (hs : swapsWith e none pos.line X.env = Pure.pure false := by rfl) : PSs X (.Expr e pos :: rest) (tR X.w X.K ds d) :=
  pss_imp (pss_cons (ps_expr he hs) hr) fun D σ H q => ⟨q.1, fun v H1 e1 h1 => ⟨q.1.up e1, fun u H2 e2 h2 => q.2 u H2 (e1.trans e2) h2⟩⟩
/-- if c: (returns) -/
theorem sr_if {k : Bool} {c : Expr} {as : List Stmt} (hc : PT X c (ttD X.w X.K ds k)) (ha : k = true → PSs X as (tR X.w X.K ds d)) (hr : k = false → PSs X rest (tR X.w X.K ds d)) : PSs X (.If c as [] pos :: rest) (tR X.w X.K ds d) := by
  cases k with
  | true => exact pss_imp (pss_cons (ps_if hc (ha rfl) pss_nil) pss_never) fun D σ H q => ⟨q.1, fun H' e => iteT ⟨q.1.up e, fun u H2 e2 h2 => q.2 u H2 (e.trans e2) h2⟩⟩
  | false => exact pss_imp (pss_cons (ps_if hc pss_never pss_nil) (hr rfl)) fun D σ H q => ⟨q.1, fun H' e => iteF ⟨q.1.up e, fun u H2 e2 h2 => q.2 u H2 (e.trans e2) h2⟩⟩
/-- if c: raise .. , where c is false -/
theorem sr_no {c : Expr} {as : List Stmt} (hc : PT X c (ttD X.w X.K ds false)) (hr : PSs X rest (tR X.w X.K ds d)) : PSs X (.If c as [] pos :: rest) (tR X.w X.K ds d) :=
  sr_if hc (fun h => nomatch h) fun _ => hr
/-- a, b = e (a tuple) -/
theorem sr_un2 {px py : Pos} {y : Str} {k} (i j : Nat) (hc : X.calm = true) (hN : X.N.Nodup) (he : PE X e (teD X.w X.K ds (.tuple [d1, d2]))) (hr : PSs X rest (tR X.w X.K ((ds.set i (some d1)).set j (some d2)) d)) (hi : X.N[i]? = some x := by rfl) (hj : X.N[j]? = some y := by rfl) (hx : Loc X.env.scope x := by first | exact .inl rfl | exact .inr rfl) (hy : Loc X.env.scope y := by first | exact .inl rfl | exact .inr rfl)
    (hs : swapsWithSole [.Tuple [.Name x px, .Name y py] k pos'] e pos.line X.env = Pure.pure false := by rfl) (hw : swappedStores [.Tuple [.Name x px, .Name y py] k pos'] e X.env = Pure.pure none := by rfl) (hf : X.fn x = true ∨ X.env.scope.names.lookup x = some .local := by first | exact .inl rfl | exact .inr rfl) (hg : X.fn y = true ∨ X.env.scope.names.lookup y = some .local := by first | exact .inl rfl | exact .inr rfl) :
    PSs X (.Assign [.Tuple [.Name x px, .Name y py] k pos'] e pos :: rest) (tR X.w X.K ds d) :=
  pss_imp (pss_cons (ps_asg he (pg_tup hc (pgs_cons (pg_name hN hi hx hf) (pgs_cons (pg_name hN hj hy hg) pgs_nil))) hs hw) hr) fun D σ H q => ⟨q.1, fun v H1 e1 h1 => by
    cases h1 with
    | tup hs hd =>
      cases hd with
      | cons g1 hd =>
        cases hd with
        | cons g2 hd =>
          cases hd
          exact ⟨_, _, rfl, hs, rfl, _, _, rfl, _, _, rfl, rfl, ((q.1.up e1).set i g1).set j g2, fun u H2 e2 h2 => q.2 u H2 (e1.trans e2) h2⟩⟩
theorem sr_un3 {px py pz : Pos} {y z : Str} {k} (i j l : Nat) (hc : X.calm = true) (hN : X.N.Nodup) (he : PE X e (teD X.w X.K ds (.tuple [d1, d2, d3]))) (hr : PSs X rest (tR X.w X.K (((ds.set i (some d1)).set j (some d2)).set l (some d3)) d)) (hi : X.N[i]? = some x := by rfl) (hj : X.N[j]? = some y := by rfl) (hl : X.N[l]? = some z := by rfl)
    (hx : Loc X.env.scope x := by first | exact .inl rfl | exact .inr rfl) (hy : Loc X.env.scope y := by first | exact .inl rfl | exact .inr rfl) (hz : Loc X.env.scope z := by first | exact .inl rfl | exact .inr rfl)
    (hs : swapsWithSole [.Tuple [.Name x px, .Name y py, .Name z pz] k pos'] e pos.line X.env = Pure.pure false := by rfl) (hw : swappedStores [.Tuple [.Name x px, .Name y py, .Name z pz] k pos'] e X.env = Pure.pure none := by rfl)
    (hf : X.fn x = true ∨ X.env.scope.names.lookup x = some .local := by first | exact .inl rfl | exact .inr rfl) (hg : X.fn y = true ∨ X.env.scope.names.lookup y = some .local := by first | exact .inl rfl | exact .inr rfl) (hh : X.fn z = true ∨ X.env.scope.names.lookup z = some .local := by first | exact .inl rfl | exact .inr rfl) :
    PSs X (.Assign [.Tuple [.Name x px, .Name y py, .Name z pz] k pos'] e pos :: rest) (tR X.w X.K ds d) :=
  pss_imp (pss_cons (ps_asg he (pg_tup hc (pgs_cons (pg_name hN hi hx hf) (pgs_cons (pg_name hN hj hy hg) (pgs_cons (pg_name hN hl hz hh) pgs_nil)))) hs hw) hr) fun D σ H q => ⟨q.1, fun v H1 e1 h1 => by
    cases h1 with
    | tup hs hd =>
      cases hd with
      | cons g1 hd =>
        cases hd with
        | cons g2 hd =>
          cases hd with
          | cons g3 hd =>
            cases hd
            exact ⟨_, _, rfl, hs, rfl, _, _, rfl, _, _, rfl, _, _, rfl, rfl, (((q.1.up e1).set i g1).set j g2).set l g3, fun u H2 e2 h2 => q.2 u H2 (e1.trans e2) h2⟩⟩
/-! ### a def by its body -/
theorem ok_of {P : Program} {w : World} {K : PySem.W.Frag} {mg : Str → Option Value} {base : Heap} {nm : Str} {params : Arguments} {body : List Stmt} {scope : Scope} {f : Addr} {fd : FuncData} {Nm ps : List Str} {k : Nat} {R : List PyData → PyData → Prop} {dvs : List V} {kws : List (Str × V)}
    (F : FunD K nm nm params body scope dvs kws f fd) (S : FnScope Nm ps scope)
    (h : ∀ (cdv : Value) (A : Around) (outer : List Env) (s : Shared) (H : Hp) (E : XK), Room k (A.deeper (envOfC nm scope s.heap.objs.size f cdv)) → ∀ dl d, R dl d → dl.length = ps.length →
      PSs (cxOf CX0 P w K mg base Nm nm scope f cdv A outer s H E).nox body (tR w K (startD Nm.length dl) d)) :
    FnOk P w K mg base CX0 (k + 1) f fd ps (spD K ps.length R) := by
  refine F.ok S (fun vs H Q E h => ?_) fun cdv A outer s H vs Q E hr hsp => ?_
  · obtain ⟨dl, d, _, hn, hd, _⟩ := h
    rw [dpa_len hd, hn]
  · obtain ⟨dl, d, hR, hn, hd, g⟩ := hsp
    exact ⟨tR w K (startD Nm.length dl) d, (h cdv A outer s H E hr dl d hR hn).nox, Lc.start hd, g⟩
end
end G33
set_option Elab.async false
set_option linter.all false
set_option maxRecDepth 100000
set_option maxHeartbeats 1000000
namespace G33
open PySem PySem.Spec PyProof.Rows L2
/-! ### enumerate(tuple) -/
theorem meets_enumT {v : Value} {o : Obj} {H : Heap → Prop} (B : Begins v o H) :
    Meets (Builtin.«enumerate.__new__» ⟨[.type "enumerate", v], []⟩) (fun _ R s => H s.heap ∧
      R (.ok (.ret (.ref (s.heap.push o).objs.size)))
        { s with heap := (s.heap.push o).push { cls := .type "enumerate", data := .fields #[.none, .bool false, .ref s.heap.objs.size, rawInt 0, .none, .none] } }) :=
  .of_wp fun prog w A R s h => by
    obtain ⟨hp, g, d, tk, os⟩ := s
    obtain ⟨h1, h⟩ := h
    have hsub := sub_enumerate
    have walks : ∀ {A' : Around} {E : Value → Shared → Prop} {Q : Value → Shared → Prop},
        Q (.ref hp.objs.size) ⟨hp.push o, g, d, tk, os⟩ → wpAny (model prog w) A' (pyIter v) Q E ⟨hp, g, d, tk, os⟩ := fun q => B.iter prog w _ _ ⟨hp, g, d, tk, os⟩ _ h1 q
    wp_walk using walks
    refine wpAny_stack_any fun st => wpAny_pure ?_
    split
    · rename_i c _ _ _ _ _
      cases (c == Value.type "enumerate") <;>
      · wp_walk using walks
        exact ⟨_, rfl, h⟩
    · wp_walk using walks
      exact ⟨_, rfl, h⟩
theorem call_enumT {prog : Program} {w : World} {A : Around} {E : Value → Shared → Prop} {s : Shared} {v : Value} {o : Obj} {H : Heap → Prop} {Q : Value → Shared → Prop} (B : Begins v o H) (h1 : H s.heap)
    (h : ∀ h', IsEnum h' (s.heap.objs.size + 1) s.heap.objs.size 0 .none → h'.get? s.heap.objs.size = some o →
      (∀ b o, s.heap.get? b = some o → h'.get? b = some o) → Q (.ref (s.heap.objs.size + 1)) { s with heap := h' }) :
    wpAny (model prog w) A (call (.type "enumerate") [v]) Q E s := by
  refine callType_new F.called_enumerate (by decide) (F.typeCall_enumerate_1 _) (F.newCall_enumerate_1 _)
    (fun obj => F.args_object_init_2 obj _) F.entry_enumerate_new (meets_enumT B) ⟨h1, ?_⟩
  have hz : (s.heap.push o).objs.size = s.heap.objs.size + 1 := Heap.size_push ..
  show _ ∧ _
  rw [hz]
  have he : IsEnum ((s.heap.push o).push { cls := .type "enumerate", data := .fields #[.none, .bool false, .ref s.heap.objs.size, rawInt 0, .none, .none] })
      (s.heap.objs.size + 1) s.heap.objs.size 0 .none := by
    have q := Heap.get?_push_size (s.heap.push o)
      (o := { cls := .type "enumerate", data := .fields #[.none, .bool false, .ref s.heap.objs.size, rawInt 0, .none, .none] }) rfl
    rw [hz] at q
    exact q
  exact ⟨⟨_, he, rfl⟩, h _ he (Heap.get?_push_of_some _ (Heap.get?_push_size _ B.free)) fun b o x => Heap.get?_push_of_some _ (Heap.get?_push_of_some _ x)⟩
/-- the tuple at a as it stands, each item in a new pair -/
def ItET (K : PySem.W.Frag) (a : Addr) : It :=
  ⟨fun i H => ∃ (xs : List V) (x : V), SqT K H a xs ∧ xs[i]? = some x,
   fun i H v H' => ∃ T x, v = .ref T ∧ H T = none ∧ H' = upd H T (.tup [.int (i : Nat), x]) ∧ ∀ xs, SqT K H a xs → xs[i]? = some x,
   fun i H => ∃ xs : List V, SqT K H a xs ∧ xs.length = i⟩
theorem turn_enumT {P : Program} {w : World} {K : PySem.W.Frag} {elts : List Expr} {kk : Nat} {tpos : Pos} (a e it : Addr) :
    Turn P w K (.Tuple elts kk tpos) (ItET K a) [e, it] e (fun i h => (∃ old, IsEnum h e it ((i : Nat) : Int) old) ∧ h.IsTupleIter it a i ∧ e ≠ it) where
  mem := by simp
  obj := fun i h st b hb => by
    obtain ⟨⟨old, he⟩, ⟨o, ho, hc, hd⟩, _⟩ := st
    have e' : b = e ∨ b = it := by simpa using hb
    rcases e' with z | z
    · rw [z]; exact ⟨_, he, fun v q => nomatch q⟩
    · rw [z]; exact ⟨o, ho, fun v q => by rw [hd] at q; cases q⟩
  keep := fun i h h' st k =>
    let ⟨⟨old, he⟩, hi, hne⟩ := st
    ⟨⟨old, k e (by simp) _ he⟩, hi.at fun o q => k it (by simp) o q, hne⟩
  item := by
    intro X hP hw hK hc i pins s σ H E I hf st hg
    subst hP hw hK
    obtain ⟨⟨old, he⟩, hit, hne⟩ := st
    obtain ⟨xs, x, hq, hx⟩ := hg
    obtain ⟨its, rv, p, hz⟩ := I.tuple hq
    obtain ⟨u, hu, ru⟩ := rv.get hx
    have hel : e < s.heap.objs.size := Heap.lt_size he
    have hil : it < s.heap.objs.size := by obtain ⟨_, q, _⟩ := hit; exact Heap.lt_size q
    have pt : s.heap.IsTuple a its.toArray := p
    have hai : a ≠ it := fun z => by
      obtain ⟨o, ho, hc1, _⟩ := hit
      obtain ⟨o', ho', hc2, _⟩ := pt
      rw [z, ho] at ho'
      cases ho'
      rw [hc1] at hc2
      injection hc2 with hc2
      exact absurd hc2 (by decide)
    have hae : a ≠ e := fun z => by
      obtain ⟨o', ho', hc2, _⟩ := pt
      rw [z, he] at ho'
      cases ho'
      injection hc2 with hc2
      exact absurd hc2 (by decide)
    have hlt : i < its.toArray.size := by
      have := (List.getElem?_eq_some_iff.mp hu).1
      simpa using this
    have D := Draws.tuple (prog := X.prog) (w := X.w) (A := X.A.in1) (I.ok.hd hc) it a hai its.toArray
    refine wpAny_pyNext_enum_itemD D he ⟨hit, pt⟩ hlt hne (by simp [Ne.symm hne, Ne.symm hae, hne]) fun u' h' tk hP ho hs' hT hsz hk => ?_
    have hu' : u' = u := by
      have h1 : its.toArray[i]? = some u' := hP
      have h2 : its.toArray[i]? = some u := by simpa using hu
      rw [h1] at h2
      exact Option.some.inj h2
    subst hu'
    refine ⟨_, rfl, wpAny_letOwnedTupleGo_enum (s := { s with heap := h', toks := tk + 1 }) ho fun h'' he' sb => ?_⟩
    have hT2 : h''.get? s.heap.objs.size = some { cls := .type "tuple", data := .seq #[.int i tk, u'] } := (sb.2 _ (Nat.ne_of_gt hel)).trans hT
    have new : ObjOk X.prog X.w (upd H s.heap.objs.size (.tup [.int (i : Nat), x])) h'' s.heap.objs.size (.tup [.int (i : Nat), x]) :=
      ⟨by show 2 ≤ sizeLine; decide, [.int i tk, u'], .cons ⟨_, rfl⟩ (.cons ru .nil), ⟨_, hT2, rfl, _, rfl⟩⟩
    have I1 : Inv X pins σ (upd H s.heap.objs.size (.tup [.int (i : Nat), x])) { s with heap := h'', toks := tk + 1 } :=
      I.turnedNew (ch := [e, it]) (fun b ob hb q => (sb.2 b (fun z => hb (by simp [z]))).trans (hk b ob (fun z => hb (by simp [z])) (fun z => hb (by simp [z])) q)) hf (Nat.le_refl _) new
    refine ⟨.ref s.heap.objs.size, _, I1, rfl, ⟨_, x, rfl, I.hok.fresh (Nat.le_refl _), rfl, fun ys hy => by rw [I.tuple_inj hy hq]; exact hx⟩, ⟨⟨u', ?_⟩, hs'.1.at fun o q => (sb.2 it (Ne.symm hne)).trans q, hne⟩, fun b hb => ?_⟩
    · have e1 : ((i + 1 : Nat) : Int) = (i : Int) + 1 := by omega
      rw [e1]
      exact he'
    · have hb' : b < s.heap.objs.size := by
        have e' : b = e ∨ b = it := by simpa using hb
        rcases e' with z | z
        · rw [z]; exact hel
        · rw [z]; exact hil
      rw [upd_ne (Nat.ne_of_lt hb')]
      exact (hf b hb).1
  done := by
    intro X hP hw hK hc i pins s σ H E I hf st hg
    subst hP hw hK
    obtain ⟨⟨old, he⟩, hit, hne⟩ := st
    obtain ⟨xs, hq, hx⟩ := hg
    obtain ⟨its, rv, p, hz⟩ := I.tuple hq
    obtain ⟨f0, f1, f2, f3, f4, f5⟩ := hf it (by simp)
    have hl := rv.length
    have pt : s.heap.IsTuple a its.toArray := p
    have hai : a ≠ it := fun z => by
      obtain ⟨o, ho, hc1, _⟩ := hit
      obtain ⟨o', ho', hc2, _⟩ := pt
      rw [z, ho] at ho'
      cases ho'
      rw [hc1] at hc2
      injection hc2 with hc2
      exact absurd hc2 (by decide)
    have D := Draws.tuple (prog := X.prog) (w := X.w) (A := X.A.in1) (I.ok.hd hc) it a hai its.toArray
    have en : i = its.toArray.size := by rw [List.size_toArray, ← hl, hx]
    subst en
    exact wpAny_pyNext_enum_endD D he ⟨hit, pt⟩ fun h' eb => ⟨rfl, I.turned (t' := s.toks) (fun b o hb q => eb b o hb q) f0 f1 f3 f4 f5⟩
  self := fun A i s Q E st h => let ⟨⟨_, he⟩, _⟩ := st; wpAny_pyIter_enum he h
def iEnumT (K : PySem.W.Frag) (ta : TA) : TI := fun σ H R => ta σ H fun vs H1 => ∃ a xs, vs = [.ref a] ∧ SqT K H1 a xs ∧ R (ItET K a) H1
theorem pi_enumT {X : Cx} {e : Expr} {ta : TA} {p pos tpos : Pos} {elts : List Expr} {kk : Nat} (hg : Gl X "enumerate") (hm : X.mg "enumerate" = none) (ha : PA X [e] ta) (hs : starEach [e] X.env = [(false, eval e X.env)] := by rfl) :
    PI X (.Tuple elts kk tpos) (.Call (.Name "enumerate" p) [e] [] pos) (iEnumT X.K ta) := by
  refine ⟨fun pins s σ H R I h => ?_⟩
  refine Call_ (ld_blt I hg hm boot_enumerate (PyProof.Rows.callWith_type1 (thn (ha.run pos pins s σ H _ I h) fun us s1 ⟨vs, H1, I1, r1, q1⟩ => ?_) hs rfl))
  obtain ⟨a, xs, ex, hq, q⟩ := q1
  subst ex
  cases r1 with
  | cons r rr =>
    cases rr
    cases r
    obtain ⟨its, rv, p', hz⟩ := I1.tuple hq
    refine call_enumT (begins_tuple a its.toArray) (show s1.heap.IsTuple a its.toArray from p') fun h' he hit hk => wpAny_pyIter_enum he ?_
    have I2 : Inv X pins σ H1 { s1 with heap := h' } := I1.kept (t' := s1.toks) hk
    refine ⟨s1.heap.objs.size + 1, [s1.heap.objs.size + 1, s1.heap.objs.size], _, _, H1, rfl, I2, turn_enumT a (s1.heap.objs.size + 1) s1.heap.objs.size,
      ⟨⟨.none, he⟩, ⟨_, hit, rfl, rfl⟩, Nat.succ_ne_self _⟩, fun b hb => ?_, q⟩
    have hle : s1.heap.objs.size ≤ b := by
      have e' : b = s1.heap.objs.size + 1 ∨ b = s1.heap.objs.size := by simpa using hb
      rcases e' with z | z
      · rw [z]; exact Nat.le_add_right _ _
      · rw [z]; exact Nat.le_refl _
    exact I1.fpOk hle (I1.hok.fresh hle)
/-! ### what is walked, by data -/
/-- J walks the data xs while the heap grows from H on -/
def WkD (K : PySem.W.Frag) (J : It) (H : Hp) (xs : List PyData) : Prop :=
  ∀ H1, Ex H H1 → (∀ (i : Nat) x, xs[i]? = some x → J.go i H1 ∧ ∀ v H2, J.yld i H1 v H2 → Ex H1 H2 ∧ Dp K H2 v x) ∧ J.stop xs.length H1
def wiD (w : World) (K : PySem.W.Frag) (ds : Ds) (xs : List PyData) : TI := fun σ H R => Lc w K H σ ds ∧ ∀ J H', Ex H H' → WkD K J H' xs → R J H'
theorem pi_imp {X : Cx} {tg it : Expr} {w w' : TI} (h : PI X tg it w) (k : ∀ σ H R, w' σ H R → w σ H R) : PI X tg it w' := ⟨fun pins s σ H R I q => h.run pins s σ H R I (k σ H R q)⟩
section
variable {X : Cx} {ds : Ds} {tg a b e : Expr} {p pos tpos : Pos} {xs ys : List PyData}
theorem wd_list (h : PE X e (teD X.w X.K ds (.list xs))) : PI X tg e (wiD X.w X.K ds xs) :=
  pi_imp (pi_list h) fun σ H R q => ⟨q.1, fun v H1 e1 h1 => by
    cases h1 with
    | lst hs hd =>
      refine ⟨_, rfl, ⟨_, hs⟩, q.2 _ _ e1 fun H2 e2 => ⟨fun i x hx => ?_, _, Evl.ex_l e2 hs, by rw [dpa_len hd]; exact Nat.le_refl _⟩⟩
      obtain ⟨v, hv, dv⟩ := dpa_get (hd.up e2) hx
      refine ⟨⟨_, v, Evl.ex_l e2 hs, hv⟩, fun u H3 y => ?_⟩
      obtain ⟨rfl, y⟩ := y
      have := y _ (Evl.ex_l e2 hs)
      rw [hv] at this
      cases this
      exact ⟨Evl.Ex.refl _, dv⟩⟩
theorem wd_tup (h : PE X e (teD X.w X.K ds (.tuple xs))) : PI X tg e (wiD X.w X.K ds xs) :=
  pi_imp (pi_tup h) fun σ H R q => ⟨q.1, fun v H1 e1 h1 => by
    cases h1 with
    | tup hs hd =>
      refine ⟨_, rfl, ⟨_, hs⟩, q.2 _ _ e1 fun H2 e2 => ⟨fun i x hx => ?_, _, Evl.ex_t e2 hs, by rw [dpa_len hd]; exact Nat.le_refl _⟩⟩
      obtain ⟨v, hv, dv⟩ := dpa_get (hd.up e2) hx
      refine ⟨⟨_, v, Evl.ex_t e2 hs, hv⟩, fun u H3 y => ?_⟩
      obtain ⟨rfl, y⟩ := y
      have := y _ (Evl.ex_t e2 hs)
      rw [hv] at this
      cases this
      exact ⟨Evl.Ex.refl _, dv⟩⟩
theorem wk_range {K : PySem.W.Frag} {H : Hp} {i j : Int} : WkD K (Itr i (j - i).toNat) H ((rgD i j).map .int) := fun H1 e1 => by
  refine ⟨fun n x hx => ?_, by show (j - i).toNat ≤ _; rw [List.length_map]; unfold rgD; rw [List.length_map, List.length_range]; exact Nat.le_refl _⟩
  rw [List.getElem?_map] at hx
  unfold rgD at hx
  rw [List.getElem?_map] at hx
  by_cases hn : n < (j - i).toNat
  · rw [List.getElem?_range hn] at hx
    cases hx
    exact ⟨hn, fun v H2 y => by obtain ⟨rfl, rfl⟩ := y; exact ⟨Evl.Ex.refl _, .int _⟩⟩
  · rw [List.getElem?_eq_none (by simpa using hn)] at hx
    cases hx
theorem wd_range2 {i j : Int} (hm : X.mg "range" = none) (ha : PE X a (teD X.w X.K ds (.int i))) (hb : PE X b (teD X.w X.K ds (.int j))) (hk : -(2 ^ 62) ≤ i ∧ i < 2 ^ 62 ∧ -(2 ^ 62) ≤ j ∧ j < 2 ^ 62) (hg : Gl X "range" := by rfl)
    (h1 : starEach [a, b] X.env = [(false, eval a X.env), (false, eval b X.env)] := by rfl) (h2 : starEach [b] X.env = [(false, eval b X.env)] := by rfl) : PI X tg (.Call (.Name "range" p) [a, b] [] pos) (wiD X.w X.K ds ((rgD i j).map .int)) :=
  pi_imp (pi_range2 hg hm (ad_cons ha (ad_cons hb ad_nil h2) (by rw [h1, h2])) h1 h2) fun σ H R q => ⟨q.1, fun vs H1 e1 h => by
    obtain ⟨v, w, rfl, g1, g2⟩ := dpa2 h
    cases g1
    cases g2
    exact ⟨i, j, rfl, hk, q.2 _ _ e1 wk_range⟩⟩
theorem wd_range1 {j : Int} (hm : X.mg "range" = none) (ha : PE X a (teD X.w X.K ds (.int j))) (hk : -(2 ^ 62) ≤ j ∧ j < 2 ^ 62) (hg : Gl X "range" := by rfl) (h1 : starEach [a] X.env = [(false, eval a X.env)] := by rfl) : PI X tg (.Call (.Name "range" p) [a] [] pos) (wiD X.w X.K ds ((rgD 0 j).map .int)) :=
  pi_imp (pi_range1 hg hm (ad_cons ha ad_nil h1) h1) fun σ H R q => ⟨q.1, fun vs H1 e1 h => by
    obtain ⟨v, rfl, g1⟩ := dpa1 h
    cases g1
    refine ⟨j, rfl, hk.1, hk.2, q.2 _ _ e1 ?_⟩
    have := wk_range (K := X.K) (H := H1) (i := 0) (j := j)
    rw [Int.sub_zero] at this
    exact this⟩
theorem dp_pair {K : PySem.W.Frag} {H : Hp} {T : Addr} {x y : V} {d e : PyData} (h : H T = none) (h1 : Dp K H x d) (h2 : Dp K H y e) : Ex H (upd H T (.tup [x, y])) ∧ Dp K (upd H T (.tup [x, y])) (.ref T) (.tuple [d, e]) :=
  ⟨Evl.Ex.new h, .tup (.inl (.inl upd_same)) (.cons (h1.up (Evl.Ex.new h)) (.cons (h2.up (Evl.Ex.new h)) .nil))⟩
/-- the pairs that enumerate, zip give -/
def enumD (xs : List PyData) : List PyData := (List.range xs.length).zipWith (fun i x => .tuple [.int (i : Nat), x]) xs
def zipD (xs ys : List PyData) : List PyData := xs.zipWith (fun x y => .tuple [x, y]) ys
theorem enumD_get {i : Nat} {x : PyData} (h : (enumD xs)[i]? = some x) : ∃ d, xs[i]? = some d ∧ x = .tuple [.int (i : Nat), d] := by
  unfold enumD at h
  rw [List.getElem?_zipWith] at h
  cases q : xs[i]? with
  | none => rw [q] at h; simp at h
  | some d =>
    have hi := (List.getElem?_eq_some_iff.mp q).1
    rw [q, List.getElem?_range hi] at h
    exact ⟨d, rfl, (Option.some.inj h).symm⟩
theorem zipD_get {i : Nat} {x : PyData} (h : (zipD xs ys)[i]? = some x) : ∃ d e, xs[i]? = some d ∧ ys[i]? = some e ∧ x = .tuple [d, e] := by
  unfold zipD at h
  rw [List.getElem?_zipWith] at h
  cases q : xs[i]? with
  | none => rw [q] at h; simp at h
  | some d =>
    cases q2 : ys[i]? with
    | none => rw [q, q2] at h; simp at h
    | some e =>
      rw [q, q2] at h
      exact ⟨d, e, rfl, rfl, (Option.some.inj h).symm⟩
theorem wd_enumT {elts : List Expr} {kk : Nat} (hm : X.mg "enumerate" = none) (ha : PE X e (teD X.w X.K ds (.tuple xs))) (hg : Gl X "enumerate" := by rfl) (h1 : starEach [e] X.env = [(false, eval e X.env)] := by rfl) : PI X (.Tuple elts kk tpos) (.Call (.Name "enumerate" p) [e] [] pos) (wiD X.w X.K ds (enumD xs)) :=
  pi_imp (pi_enumT hg hm (ad_cons ha ad_nil h1) h1) fun σ H R q => ⟨q.1, fun vs H1 e1 h => by
    obtain ⟨v, rfl, g1⟩ := dpa1 h
    cases g1 with
    | tup hs hd =>
      refine ⟨_, _, rfl, hs, q.2 _ _ e1 fun H2 e2 => ⟨fun i x hx => ?_, _, Evl.ex_t e2 hs, by rw [dpa_len hd]; simp [enumD]⟩⟩
      obtain ⟨d, hd1, rfl⟩ := enumD_get hx
      obtain ⟨v, hv, dv⟩ := dpa_get (hd.up e2) hd1
      refine ⟨⟨_, v, Evl.ex_t e2 hs, hv⟩, fun u H3 y => ?_⟩
      obtain ⟨T, x', rfl, hT, rfl, y⟩ := y
      have z := y _ (Evl.ex_t e2 hs)
      rw [hv] at z
      cases z
      exact dp_pair hT (.int _) dv⟩
theorem wd_enumL {elts : List Expr} {kk : Nat} (hm : X.mg "enumerate" = none) (ha : PE X e (teD X.w X.K ds (.list xs))) (hg : Gl X "enumerate" := by rfl) (h1 : starEach [e] X.env = [(false, eval e X.env)] := by rfl) : PI X (.Tuple elts kk tpos) (.Call (.Name "enumerate" p) [e] [] pos) (wiD X.w X.K ds (enumD xs)) :=
  pi_imp (pi_enum hg hm (ad_cons ha ad_nil h1) h1) fun σ H R q => ⟨q.1, fun vs H1 e1 h => by
    obtain ⟨v, rfl, g1⟩ := dpa1 h
    cases g1 with
    | lst hs hd =>
      refine ⟨_, _, rfl, hs, q.2 _ _ e1 fun H2 e2 => ⟨fun i x hx => ?_, _, Evl.ex_l e2 hs, by rw [dpa_len hd]; simp [enumD]⟩⟩
      obtain ⟨d, hd1, rfl⟩ := enumD_get hx
      obtain ⟨v, hv, dv⟩ := dpa_get (hd.up e2) hd1
      refine ⟨⟨_, v, Evl.ex_l e2 hs, hv⟩, fun u H3 y => ?_⟩
      obtain ⟨T, x', rfl, hT, rfl, y⟩ := y
      have z := y _ (Evl.ex_l e2 hs)
      rw [hv] at z
      cases z
      exact dp_pair hT (.int _) dv⟩
theorem wd_zipT {elts : List Expr} {kk : Nat} (hm : X.mg "zip" = none) (ha : PE X a (teD X.w X.K ds (.tuple xs))) (hb : PE X b (teD X.w X.K ds (.tuple ys))) (hg : Gl X "zip" := by rfl) (h1 : starEach [a, b] X.env = (false, eval a X.env) :: starEach [b] X.env := by rfl)
    (h2 : starEach [b] X.env = (false, eval b X.env) :: starEach [] X.env := by rfl) (hpl : (backTo pos (starEach [b] X.env)).any (·.1) = false := by rfl) : PI X (.Tuple elts kk tpos) (.Call (.Name "zip" p) [a, b] [] pos) (wiD X.w X.K ds (zipD xs ys)) :=
  pi_imp (RZ.pi_zipA hg hm (ad_cons ha (ad_cons hb ad_nil h2) h1) h1 hpl) fun σ H R q => ⟨q.1, fun vs H1 e1 h => by
    obtain ⟨v, w, rfl, g1, g2⟩ := dpa2 h
    cases g1 with
    | tup hs hd =>
      cases g2 with
      | tup ht he =>
        refine ⟨_, _, _, _, rfl, .inr ⟨hs, ht, q.2 _ _ e1 fun H2 e2 => ⟨fun i x hx => ?_, _, _, Evl.ex_t e2 hs, Evl.ex_t e2 ht, by rw [dpa_len hd, dpa_len he]; simp [zipD]; omega⟩⟩⟩
        obtain ⟨d, d', hd1, hd2, rfl⟩ := zipD_get hx
        obtain ⟨v, hv, dv⟩ := dpa_get (hd.up e2) hd1
        obtain ⟨w, hw, dw⟩ := dpa_get (he.up e2) hd2
        refine ⟨⟨_, _, v, w, Evl.ex_t e2 hs, Evl.ex_t e2 ht, hv, hw⟩, fun u H3 y => ?_⟩
        obtain ⟨T, x', y', rfl, hT, rfl, y1, y2⟩ := y
        have z := y1 _ (Evl.ex_t e2 hs)
        have z2 := y2 _ (Evl.ex_t e2 ht)
        rw [hv] at z
        rw [hw] at z2
        cases z
        cases z2
        exact dp_pair hT dv dw⟩
end
/-! ### list comprehensions, by data -/
section
variable {K : PySem.W.Frag} {ι : Type} {ds : Ds}
def teU (w : World) (K : PySem.W.Frag) (items : List ι) (f : ι → Bool) (gq : ι → PyData) (dsf : ι → Ds) : TE := fun σ H Q => ∃ a, a ∈ items ∧ f a = true ∧ teD w K (dsf a) (gq a) σ H Q
def ttU (w : World) (K : PySem.W.Frag) (items : List ι) (f : ι → Bool) (dsf : ι → Ds) : TT := fun σ H Q => ∃ a, a ∈ items ∧ Lc w K H σ (dsf a) ∧ ∀ H', Ex H H' → Q (f a) H'
theorem pe_U {X : Cx} {e : Expr} {items : List ι} {f : ι → Bool} {gq : ι → PyData} {dsf : ι → Ds} (h : ∀ a, a ∈ items → f a = true → PE X e (teD X.w X.K (dsf a) (gq a))) : PE X e (teU X.w X.K items f gq dsf) :=
  ⟨fun pins s σ H Q I ⟨a, ha, hf, q⟩ => (h a ha hf).run pins s σ H Q I q⟩
theorem pts_U {X : Cx} {es : List Expr} {items : List ι} {f : ι → Bool} {dsf : ι → Ds} (h : ∀ a, a ∈ items → PTs X es (ttD X.w X.K (dsf a) (f a))) : PTs X es (ttU X.w X.K items f dsf) :=
  ⟨fun pins s σ H Q I ⟨a, ha, q⟩ => (h a ha).run pins s σ H Q I q⟩
theorem ptd_nil {X : Cx} : PTs X [] (ttD X.w X.K ds true) := ⟨fun pins s σ H Q I q => pts_nil.run pins s σ H Q I (q.2 H (Evl.Ex.refl H))⟩
theorem ptd_one {X : Cx} {c : Expr} {k : Bool} (h : PT X c (ttD X.w X.K ds k)) : PTs X [c] (ttD X.w X.K ds k) := pts_one h
theorem lc_D {items : List ι} {en : ι → PyData} {f : ι → Bool} {gq : ι → PyData} {dsf : ι → Ds} {g : TG} {vs : List Nat} (hp : ∀ a, a ∈ items → pure (gq a) = true) (hz : items.length ≤ 100000)
    (hg : ∀ a, a ∈ items → ∀ v (σ0 : L2.St) H (Q : L2.St → Hp → Prop), Lc w K H (L2.wipe σ0 vs) (wipeD ds vs) → Dp K H v (en a) → (∀ σ2, L2.wipe σ2 vs = L2.wipe σ0 vs → Lc w K H σ2 (dsf a) → Q σ2 H) → g v (L2.wipe σ0 vs) H Q)
    {σ : L2.St} {H : Hp} {Q : VK} (q : teD w K ds (.list ((items.filter f).map gq)) σ H Q) : tLc (wiD w K ds (items.map en)) g (ttU w K items f dsf) (teU w K items f gq dsf) vs σ H Q := by
  refine ⟨q.1, fun J H1 e1 wk D hD => ⟨fun i m Hc => m = items.length - i ∧ i ≤ items.length ∧ Ex H1 Hc ∧ ∃ acc, Hc D = some (.lst acc) ∧ DpAll K Hc acc (((items.take i).filter f).map gq), ⟨items.length, rfl, Nat.zero_le _, Evl.Ex.new hD, [], upd_same, by simpa using DpAll.nil⟩, ?_⟩⟩
  rintro i m Hc ⟨rfl, hi, ec, acc, hacc, dacc⟩
  obtain ⟨wg, ws⟩ := wk Hc ec
  by_cases hlt : i < items.length
  · have ha : items[i]? = some items[i] := List.getElem?_eq_getElem hlt
    have hmem : items[i] ∈ items := List.getElem_mem hlt
    obtain ⟨go, yl⟩ := wg i (en items[i]) (by rw [List.getElem?_map, ha]; rfl)
    have hpz : ∀ x ∈ (items.take i).filter f, pure (gq x) = true := fun x hx => hp x (List.mem_of_mem_take (List.mem_filter.mp hx).1)
    have hpa : pureAll (((items.take i).filter f).map gq) = true := by
      have : ∀ l : List ι, (∀ x ∈ l, pure (gq x) = true) → pureAll (l.map gq) = true := by
        intro l
        induction l with
        | nil => intro _; simp [pureAll]
        | cons x l ih => intro h; simp [pureAll, h x (List.mem_cons_self ..), ih fun y hy => h y (List.mem_cons_of_mem _ hy)]
      exact this _ hpz
    refine .inr ⟨go, fun Hn => Ex H1 Hn ∧ ∃ acc, Hn D = some (.lst acc) ∧ DpAll K Hn acc (((items.take (i + 1)).filter f).map gq), fun Hn ⟨a1, a2⟩ => ⟨items.length - (i + 1), by omega, rfl, hlt, a1, a2⟩, fun v H2 y => ?_⟩
    obtain ⟨e2, dv⟩ := yl v H2 y
    have eT : (items.take (i + 1)).filter f = (items.take i).filter f ++ (if f items[i] = true then [items[i]] else []) := by
      rw [List.take_add_one, ha, List.filter_append]
      cases hf : f items[i] <;> simp [hf]
    refine hg items[i] hmem v σ H2 _ (((q.1.up e1).up (ec.trans e2)).wipe vs) dv fun σ2 w2 L2' => ⟨w2, items[i], hmem, L2', fun H3 e3 => ?_⟩
    cases hf : f items[i] with
    | false =>
      refine iteF ⟨ec.trans (e2.trans e3), acc, e3 D _ (e2 D _ hacc), ?_⟩
      rw [eT, hf, if_neg Bool.false_ne_true, List.append_nil]
      exact (dacc.up e2).up e3
    | true =>
      refine iteT ⟨items[i], hmem, hf, L2'.up e3, fun y H4 e4 dy => ⟨acc, e4 D _ (e3 D _ (e2 D _ hacc)), ?_, Evl.Ex.mut (ec.trans (e2.trans (e3.trans e4))) hD, acc ++ [y], upd_same, ?_⟩⟩
      · have hl := dpa_len dacc
        refine Evl.sz_lt ?_
        rw [hl, List.length_map]
        have h1 := List.length_filter_le f (items.take i)
        rw [List.length_take] at h1
        omega
      · rw [eT, hf, if_pos rfl, List.map_append]
        have eD := e4 D _ (e3 D _ (e2 D _ hacc))
        refine dpa_append (dpa_upT (ExT.lst eD) _ hpa (((dacc.up e2).up e3).up e4)) (.cons (dy.upT (hp _ hmem) (ExT.lst eD)) .nil)
  · have ei : i = items.length := by omega
    subst ei
    rw [List.take_length] at dacc
    refine .inl ⟨by rw [List.length_map] at ws; exact ws, q.2 _ _ (e1.trans ec) (.lst (.inl (.inl hacc)) dacc)⟩
theorem wipe1 (σ : L2.St) (j : Nat) (o : Option V) : L2.wipe ((L2.wipe σ [j]).set j o) [j] = L2.wipe σ [j] := by
  show ((σ.set j none).set j o).set j none = σ.set j none
  rw [List.set_set, List.set_set]
theorem g1_D {ds : Ds} {j : Nat} {x : PyData} {v : V} {σ0 : L2.St} {H : Hp} {Q : L2.St → Hp → Prop} (L : Lc w K H (L2.wipe σ0 [j]) (wipeD ds [j])) (h : Dp K H v x) (k : ∀ σ2, L2.wipe σ2 [j] = L2.wipe σ0 [j] → Lc w K H σ2 (ds.set j (some x)) → Q σ2 H) : gName j v (L2.wipe σ0 [j]) H Q := by
  refine k _ (wipe1 σ0 j _) ?_
  have := L.set j h
  rw [show (wipeD ds [j]).set j (some x) = ds.set j (some x) by show (ds.set j none).set j (some x) = _; rw [List.set_set]] at this
  exact this
theorem g2_D {ds : Ds} {i j : Nat} {x y : PyData} {v : V} {σ0 : L2.St} {H : Hp} {Q : L2.St → Hp → Prop} (L : Lc w K H (L2.wipe σ0 [i, j]) (wipeD ds [i, j])) (h : Dp K H v (.tuple [x, y])) (hij : i ≠ j) (k : ∀ σ2, L2.wipe σ2 [i, j] = L2.wipe σ0 [i, j] → Lc w K H σ2 ((ds.set i (some x)).set j (some y)) → Q σ2 H) :
    gTup K 2 (gCons (gName i) (gCons (gName j) gNil)) v (L2.wipe σ0 [i, j]) H Q := by
  cases h with
  | tup hs hd =>
    cases hd with
    | cons h1 hd =>
      cases hd with
      | cons h2 hd =>
        cases hd
        refine ⟨_, _, rfl, hs, rfl, _, _, rfl, _, _, rfl, rfl, ?_⟩
        refine k _ ?_ ?_
        · show (((((σ0.set j none).set i none).set i _).set j _).set j none).set i none = (σ0.set j none).set i none
          rw [List.set_set, List.set_set, List.set_comm _ _ hij, List.set_set, List.set_set]
        · have := (L.set i h1).set j h2
          rw [show ((wipeD ds [i, j]).set i (some x)).set j (some y) = (ds.set i (some x)).set j (some y) by
            show (((ds.set j none).set i none).set i (some x)).set j (some y) = _
            rw [List.set_set, List.set_comm _ _ (Ne.symm hij), List.set_set]
            ] at this
          exact this
end
end G33
set_option Elab.async false
set_option linter.all false
set_option maxRecDepth 100000
set_option maxHeartbeats 1000000
namespace G33
open PySem PySem.Spec PyProof.Rows L2
section
variable {X : Cx} {ι : Type} {ds : Ds} {elt iter : Expr} {ifs : List Expr} {scope : Scope} {pos spos py p1 p2 p3 : Pos} {x y nm : Str}
abbrev BX (X : Cx) (scope : Scope) (s : Shared) (H : Hp) (C : Addr) (cl : List (Str × Addr)) (fp : List Addr) : Cx := X.blk s H scope (compEnvC scope cl C X.env) fp
/-- [elt for x in iter if ..]: the reading, as a value -/
theorem pd_lc1 (j : Nat) (items : List ι) (en : ι → PyData) (f : ι → Bool) (gq : ι → PyData) (hc : X.calm = true) (hN : X.N.Nodup) (hi : PI X (.Name x p1) iter (wiD X.w X.K ds (items.map en))) (ok : BlkOk X.N X.env.scope scope [(x, j)])
    (hg : ∀ s H C cl fp, PG (BX X scope s H C cl fp) (.Name x p1) (gName j)) (hp : ∀ a, a ∈ items → pure (gq a) = true) (hz : items.length ≤ 100000)
    (ht : ∀ a, a ∈ items → ∀ s H C cl fp, PTs (BX X scope s H C cl fp) ifs (ttD X.w X.K (ds.set j (some (en a))) (f a))) (he : ∀ a, a ∈ items → f a = true → ∀ s H C cl fp, PE (BX X scope s H C cl fp) elt (teD X.w X.K (ds.set j (some (en a))) (gq a)))
    (hs : ∀ z, foldedSetIterable iter X.env z = Pure.pure z := by intro _; rfl) :
    PE X (.ListComp elt [⟨.Name x p1, iter, ifs, 0⟩] scope pos) (teD X.w X.K ds (.list ((items.filter f).map gq))) :=
  pe_imp (pe_lc hc hN hi ok hg (fun s H C cl fp => pts_U (X := BX X scope s H C cl fp) (dsf := fun a => ds.set j (some (en a))) fun a ha => ht a ha s H C cl fp) (fun s H C cl fp => pe_U (X := BX X scope s H C cl fp) fun a ha hf => he a ha hf s H C cl fp) hs) fun σ H Q q =>
    lc_D hp hz (fun a _ v σ0 H Q L h k => g1_D L h k) q
/-- [elt for x, y in iter if ..] -/
theorem pd_lc2 (i j : Nat) (items : List ι) (ea eb : ι → PyData) (f : ι → Bool) (gq : ι → PyData) {k : Nat} (hij : i ≠ j) (hc : X.calm = true) (hN : X.N.Nodup) (hi : PI X (.Tuple [.Name x p1, .Name y p2] k p3) iter (wiD X.w X.K ds (items.map fun a => .tuple [ea a, eb a]))) (ok : BlkOk X.N X.env.scope scope [(x, i), (y, j)])
    (hg : ∀ s H C cl fp, PG (BX X scope s H C cl fp) (.Tuple [.Name x p1, .Name y p2] k p3) (gTup X.K 2 (gCons (gName i) (gCons (gName j) gNil)))) (hp : ∀ a, a ∈ items → pure (gq a) = true) (hz : items.length ≤ 100000)
    (ht : ∀ a, a ∈ items → ∀ s H C cl fp, PTs (BX X scope s H C cl fp) ifs (ttD X.w X.K ((ds.set i (some (ea a))).set j (some (eb a))) (f a))) (he : ∀ a, a ∈ items → f a = true → ∀ s H C cl fp, PE (BX X scope s H C cl fp) elt (teD X.w X.K ((ds.set i (some (ea a))).set j (some (eb a))) (gq a)))
    (hs : ∀ z, foldedSetIterable iter X.env z = Pure.pure z := by intro _; rfl) :
    PE X (.ListComp elt [⟨.Tuple [.Name x p1, .Name y p2] k p3, iter, ifs, 0⟩] scope pos) (teD X.w X.K ds (.list ((items.filter f).map gq))) :=
  pe_imp (pe_lc hc hN hi ok hg (fun s H C cl fp => pts_U (X := BX X scope s H C cl fp) (dsf := fun a => (ds.set i (some (ea a))).set j (some (eb a))) fun a ha => ht a ha s H C cl fp) (fun s H C cl fp => pe_U (X := BX X scope s H C cl fp) fun a ha hf => he a ha hf s H C cl fp) hs) fun σ H Q q =>
    lc_D (en := fun a => .tuple [ea a, eb a]) hp hz (fun a _ v σ0 H Q L h k => g2_D L h hij k) q
/-- y = [elt for x in iter if ..], y a local, on one line -/
theorem asg_lc1 (t j : Nat) (items : List ι) (en : ι → PyData) (f : ι → Bool) (gq : ι → PyData) (hc : X.calm = true) (hN : X.N.Nodup) (hi : PI X (.Name x p1) iter (wiD X.w X.K ds (items.map en))) (ok : BlkOk X.N X.env.scope scope [(x, j)])
    (hg : ∀ s H C cl fp, PG (BX X scope s H C cl fp) (.Name x p1) (gName j)) (hp : ∀ a, a ∈ items → pure (gq a) = true) (hz : items.length ≤ 100000)
    (ht : ∀ a, a ∈ items → ∀ s H C cl fp, PTs (BX X scope s H C cl fp) ifs (ttD X.w X.K (ds.set j (some (en a))) (f a))) (he : ∀ a, a ∈ items → f a = true → ∀ s H C cl fp, PE (BX X scope s H C cl fp) elt (teD X.w X.K (ds.set j (some (en a))) (gq a)))
    (hy : X.N[t]? = some nm := by rfl) (hyl : X.env.scope.names.lookup nm = some .local := by rfl) (hsw : swapsWith (.ListComp elt [⟨.Name x p1, iter, ifs, 0⟩] scope pos) (some (.Name nm py)) spos.line X.env = Pure.pure true := by exact sw_true rfl rfl rfl (by decide +kernel)) (hs : ∀ z, foldedSetIterable iter X.env z = Pure.pure z := by intro _; rfl) :
    PS X (.Assign [.Name nm py] (.ListComp elt [⟨.Name x p1, iter, ifs, 0⟩] scope pos) spos) (tAsg (teD X.w X.K ds (.list ((items.filter f).map gq))) (gName t)) :=
  ps_imp (ps_setLc hc hN hy hyl hsw hi ok hg (fun s H C cl fp => pts_U (X := BX X scope s H C cl fp) (dsf := fun a => ds.set j (some (en a))) fun a ha => ht a ha s H C cl fp) (fun s H C cl fp => pe_U (X := BX X scope s H C cl fp) fun a ha hf => he a ha hf s H C cl fp) hs) fun D σ H q =>
    lc_D hp hz (fun a _ v σ0 H Q L h k => g1_D L h k) q
theorem asg_lc2 (t i j : Nat) (items : List ι) (ea eb : ι → PyData) (f : ι → Bool) (gq : ι → PyData) {k : Nat} (hij : i ≠ j) (hc : X.calm = true) (hN : X.N.Nodup) (hi : PI X (.Tuple [.Name x p1, .Name y p2] k p3) iter (wiD X.w X.K ds (items.map fun a => .tuple [ea a, eb a]))) (ok : BlkOk X.N X.env.scope scope [(x, i), (y, j)])
    (hg : ∀ s H C cl fp, PG (BX X scope s H C cl fp) (.Tuple [.Name x p1, .Name y p2] k p3) (gTup X.K 2 (gCons (gName i) (gCons (gName j) gNil)))) (hp : ∀ a, a ∈ items → pure (gq a) = true) (hz : items.length ≤ 100000)
    (ht : ∀ a, a ∈ items → ∀ s H C cl fp, PTs (BX X scope s H C cl fp) ifs (ttD X.w X.K ((ds.set i (some (ea a))).set j (some (eb a))) (f a))) (he : ∀ a, a ∈ items → f a = true → ∀ s H C cl fp, PE (BX X scope s H C cl fp) elt (teD X.w X.K ((ds.set i (some (ea a))).set j (some (eb a))) (gq a)))
    (hy : X.N[t]? = some nm := by rfl) (hyl : X.env.scope.names.lookup nm = some .local := by rfl) (hsw : swapsWith (.ListComp elt [⟨.Tuple [.Name x p1, .Name y p2] k p3, iter, ifs, 0⟩] scope pos) (some (.Name nm py)) spos.line X.env = Pure.pure true := by exact sw_true rfl rfl rfl (by decide +kernel)) (hs : ∀ z, foldedSetIterable iter X.env z = Pure.pure z := by intro _; rfl) :
    PS X (.Assign [.Name nm py] (.ListComp elt [⟨.Tuple [.Name x p1, .Name y p2] k p3, iter, ifs, 0⟩] scope pos) spos) (tAsg (teD X.w X.K ds (.list ((items.filter f).map gq))) (gName t)) :=
  ps_imp (ps_setLc hc hN hy hyl hsw hi ok hg (fun s H C cl fp => pts_U (X := BX X scope s H C cl fp) (dsf := fun a => (ds.set i (some (ea a))).set j (some (eb a))) fun a ha => ht a ha s H C cl fp) (fun s H C cl fp => pe_U (X := BX X scope s H C cl fp) fun a ha hf => he a ha hf s H C cl fp) hs) fun D σ H q =>
    lc_D (en := fun a => .tuple [ea a, eb a]) hp hz (fun a _ v σ0 H Q L h k => g2_D L h hij k) q
theorem sr_asgL {st : Stmt} {rest : List Stmt} {d d1 : PyData} {t : Nat} (h : PS X st (tAsg (teD X.w X.K ds d1) (gName t))) (hr : PSs X rest (tR X.w X.K (ds.set t (some d1)) d)) : PSs X (st :: rest) (tR X.w X.K ds d) :=
  pss_imp (pss_cons h hr) fun D σ H q => ⟨q.1, fun v H1 e1 h1 => ⟨(q.1.up e1).set t h1, fun u H2 e2 h2 => q.2 u H2 (e1.trans e2) h2⟩⟩
theorem hs_asgL {st : Stmt} {d1 : PyData} {t : Nat} {P N : L2.St → Hp → Prop} {R : V → Hp → Prop} (h : PS X st (tAsg (teD X.w X.K ds d1) (gName t))) (hL : ∀ σ H, P σ H → Lc X.w X.K H σ ds) (hn : ∀ σ H v H', P σ H → Ex H H' → Dp X.K H' v d1 → N (σ.set t (some v)) H') : PS X st (tH P N R) :=
  ps_imp h fun D σ H q => ⟨hL σ H q.1, fun v H' e1 h1 => q.2.1 _ _ (hn σ H v H' q.1 e1 h1)⟩
/-! the forms in use: no test; truth values, whole numbers -/
theorem wd_eq {tg it : Expr} {xs ys : List PyData} (h : PI X tg it (wiD X.w X.K ds xs)) (q : xs = ys) : PI X tg it (wiD X.w X.K ds ys) := q ▸ h
theorem filter_tt {l : List ι} : l.filter (fun _ => true) = l := List.filter_eq_self.mpr fun _ _ => rfl
theorem zipD_ints (as bs : List Int) : zipD (as.map .int) (bs.map .int) = (as.zip bs).map fun p => .tuple [.int p.1, .int p.2] := by
  unfold zipD
  rw [List.zipWith_map, List.zip, List.map_zipWith]
theorem enumD_ints (as : List Int) : enumD (as.map .int) = ((List.range as.length).zip as).map fun p => .tuple [.int (p.1 : Nat), .int p.2] := by
  unfold enumD
  rw [List.length_map, List.zipWith_map_right, List.zip, List.map_zipWith]
theorem pureB (b : Bool) : pure (.bool b) = true := by simp [pure]
theorem pureI (b : Int) : pure (.int b) = true := by simp [pure]
theorem pureT (l : List Int) : pure (.tuple (l.map .int)) = true := by
  have : ∀ l : List Int, pureAll (l.map .int) = true := by
    intro l
    induction l with
    | nil => simp [pureAll]
    | cons a l ih => simp [pureAll, pure, ih]
  simp [pure, this]
section
variable (j : Nat) (items : List ι) (en : ι → PyData) (hc : X.calm = true) (hN : X.N.Nodup) (hi : PI X (.Name x p1) iter (wiD X.w X.K ds (items.map en))) (ok : BlkOk X.N X.env.scope scope [(x, j)])
    (hg : ∀ s H C cl fp, PG (BX X scope s H C cl fp) (.Name x p1) (gName j)) (hz : items.length ≤ 100000)
include hc hN hi ok hg hz
theorem pd_lc1a (gq : ι → PyData) (hp : ∀ a, a ∈ items → pure (gq a) = true) (he : ∀ a, a ∈ items → ∀ s H C cl fp, PE (BX X scope s H C cl fp) elt (teD X.w X.K (ds.set j (some (en a))) (gq a)))
    (hs : ∀ z, foldedSetIterable iter X.env z = Pure.pure z := by intro _; rfl) : PE X (.ListComp elt [⟨.Name x p1, iter, [], 0⟩] scope pos) (teD X.w X.K ds (.list (items.map gq))) :=
  pd_eq (pd_lc1 j items en (fun _ => true) gq hc hN hi ok hg hp hz (fun _ _ _ _ _ _ _ => ptd_nil) (fun a ha _ => he a ha) hs) (by rw [filter_tt])
theorem pd_lc1B (gq : ι → Bool) (he : ∀ a, a ∈ items → ∀ s H C cl fp, PE (BX X scope s H C cl fp) elt (teD X.w X.K (ds.set j (some (en a))) (.bool (gq a))))
    (hs : ∀ z, foldedSetIterable iter X.env z = Pure.pure z := by intro _; rfl) : PE X (.ListComp elt [⟨.Name x p1, iter, [], 0⟩] scope pos) (teD X.w X.K ds (.list ((items.map gq).map .bool))) :=
  pd_eq (pd_lc1a j items en hc hN hi ok hg hz (fun a => .bool (gq a)) (fun _ _ => pureB _) he hs) (by rw [List.map_map]; rfl)
theorem pd_lc1I (gq : ι → Int) (he : ∀ a, a ∈ items → ∀ s H C cl fp, PE (BX X scope s H C cl fp) elt (teD X.w X.K (ds.set j (some (en a))) (.int (gq a))))
    (hs : ∀ z, foldedSetIterable iter X.env z = Pure.pure z := by intro _; rfl) : PE X (.ListComp elt [⟨.Name x p1, iter, [], 0⟩] scope pos) (teD X.w X.K ds (.list ((items.map gq).map .int))) :=
  pd_eq (pd_lc1a j items en hc hN hi ok hg hz (fun a => .int (gq a)) (fun _ _ => pureI _) he hs) (by rw [List.map_map]; rfl)
end
section
variable (i j : Nat) (items : List ι) (ea eb : ι → PyData) {k : Nat} (hij : i ≠ j) (hc : X.calm = true) (hN : X.N.Nodup) (hi : PI X (.Tuple [.Name x p1, .Name y p2] k p3) iter (wiD X.w X.K ds (items.map fun a => .tuple [ea a, eb a]))) (ok : BlkOk X.N X.env.scope scope [(x, i), (y, j)])
    (hg : ∀ s H C cl fp, PG (BX X scope s H C cl fp) (.Tuple [.Name x p1, .Name y p2] k p3) (gTup X.K 2 (gCons (gName i) (gCons (gName j) gNil)))) (hz : items.length ≤ 100000)
include hij hc hN hi ok hg hz
theorem pd_lc2a (gq : ι → PyData) (hp : ∀ a, a ∈ items → pure (gq a) = true) (he : ∀ a, a ∈ items → ∀ s H C cl fp, PE (BX X scope s H C cl fp) elt (teD X.w X.K ((ds.set i (some (ea a))).set j (some (eb a))) (gq a)))
    (hs : ∀ z, foldedSetIterable iter X.env z = Pure.pure z := by intro _; rfl) : PE X (.ListComp elt [⟨.Tuple [.Name x p1, .Name y p2] k p3, iter, [], 0⟩] scope pos) (teD X.w X.K ds (.list (items.map gq))) :=
  pd_eq (pd_lc2 i j items ea eb (fun _ => true) gq hij hc hN hi ok hg hp hz (fun _ _ _ _ _ _ _ => ptd_nil) (fun a ha _ => he a ha) hs) (by rw [filter_tt])
theorem pd_lc2B (gq : ι → Bool) (he : ∀ a, a ∈ items → ∀ s H C cl fp, PE (BX X scope s H C cl fp) elt (teD X.w X.K ((ds.set i (some (ea a))).set j (some (eb a))) (.bool (gq a))))
    (hs : ∀ z, foldedSetIterable iter X.env z = Pure.pure z := by intro _; rfl) : PE X (.ListComp elt [⟨.Tuple [.Name x p1, .Name y p2] k p3, iter, [], 0⟩] scope pos) (teD X.w X.K ds (.list ((items.map gq).map .bool))) :=
  pd_eq (pd_lc2a i j items ea eb hij hc hN hi ok hg hz (fun a => .bool (gq a)) (fun _ _ => pureB _) he hs) (by rw [List.map_map]; rfl)
theorem pd_lc2I (gq : ι → Int) (he : ∀ a, a ∈ items → ∀ s H C cl fp, PE (BX X scope s H C cl fp) elt (teD X.w X.K ((ds.set i (some (ea a))).set j (some (eb a))) (.int (gq a))))
    (hs : ∀ z, foldedSetIterable iter X.env z = Pure.pure z := by intro _; rfl) : PE X (.ListComp elt [⟨.Tuple [.Name x p1, .Name y p2] k p3, iter, [], 0⟩] scope pos) (teD X.w X.K ds (.list ((items.map gq).map .int))) :=
  pd_eq (pd_lc2a i j items ea eb hij hc hN hi ok hg hz (fun a => .int (gq a)) (fun _ _ => pureI _) he hs) (by rw [List.map_map]; rfl)
end
end
end G33
set_option Elab.async false
set_option linter.all false
set_option maxRecDepth 100000
set_option maxHeartbeats 1000000
namespace G33
open PySem PySem.Spec PyProof.Rows L2
/-- what the top has left: the facts by names -/
structure Fx (K : PySem.W.Frag) (mg : Str → Option Value) : Prop where
  says : He.SaysD fa fn K
  at_ : ∃ h : Heap, K.In h ∧ h.Ns mainGlobals mg
section
variable {K : PySem.W.Frag} {mg : Str → Option Value}
theorem Fx.glo (T : Fx K mg) (i : Nat) {x : Str} (h : fa[i]? = some (.glo x)) : mg x = some (.ref (He.ga K x)) := let ⟨_, X, G⟩ := T.at_; He.glo_ok X G (T.says.fact i h)
theorem Fx.free (T : Fx K mg) (i : Nat) {x : Str} (h : fa[i]? = some (.free x)) : mg x = none := let ⟨_, X, G⟩ := T.at_; He.free_ok X G (T.says.fact i h)
theorem Fx.int (T : Fx K mg) (i : Nat) {x : Str} {n : Int} (h : fa[i]? = some (.int x n)) : ∃ t, mg x = some (.int n t) := let ⟨_, X, G⟩ := T.at_; He.int_ok X G (T.says.fact i h)
theorem Fx.str (T : Fx K mg) (i : Nat) {x z : Str} (h : fa[i]? = some (.str x z)) : ∃ t, mg x = some (.str z t) := let ⟨_, X, G⟩ := T.at_; He.str_ok X G (T.says.fact i h)
theorem Fx.g_is_whole (T : Fx K mg) : mg "is_whole" = some (.ref (He.ga K "is_whole")) := T.glo 0 rfl
theorem Fx.g_need_hall (T : Fx K mg) : mg "need_hall" = some (.ref (He.ga K "need_hall")) := T.glo 1 rfl
theorem Fx.g_are_limits (T : Fx K mg) : mg "are_limits" = some (.ref (He.ga K "are_limits")) := T.glo 2 rfl
theorem Fx.g_is_plain (T : Fx K mg) : mg "is_plain" = some (.ref (He.ga K "is_plain")) := T.glo 3 rfl
theorem Fx.g_is_word (T : Fx K mg) : mg "is_word" = some (.ref (He.ga K "is_word")) := T.glo 4 rfl
theorem Fx.g_parts_of (T : Fx K mg) : mg "parts_of" = some (.ref (He.ga K "parts_of")) := T.glo 5 rfl
theorem Fx.g_need_rule (T : Fx K mg) : mg "need_rule" = some (.ref (He.ga K "need_rule")) := T.glo 6 rfl
theorem Fx.g_need_kind (T : Fx K mg) : mg "need_kind" = some (.ref (He.ga K "need_kind")) := T.glo 7 rfl
theorem Fx.g_lets_plain (T : Fx K mg) : mg "lets_plain" = some (.ref (He.ga K "lets_plain")) := T.glo 8 rfl
theorem Fx.g_lets_of (T : Fx K mg) : mg "lets_of" = some (.ref (He.ga K "lets_of")) := T.glo 9 rfl
theorem Fx.g_none_of (T : Fx K mg) : mg "none_of" = some (.ref (He.ga K "none_of")) := T.glo 10 rfl
theorem Fx.g_with_more (T : Fx K mg) : mg "with_more" = some (.ref (He.ga K "with_more")) := T.glo 11 rfl
theorem Fx.g_cheapest_sold (T : Fx K mg) : mg "cheapest_sold" = some (.ref (He.ga K "cheapest_sold")) := T.glo 12 rfl
theorem Fx.g_step_of (T : Fx K mg) : mg "step_of" = some (.ref (He.ga K "step_of")) := T.glo 13 rfl
theorem Fx.g_need_calls (T : Fx K mg) : mg "need_calls" = some (.ref (He.ga K "need_calls")) := T.glo 14 rfl
theorem Fx.g_worth_of (T : Fx K mg) : mg "worth_of" = some (.ref (He.ga K "worth_of")) := T.glo 15 rfl
theorem Fx.g_are_counts (T : Fx K mg) : mg "are_counts" = some (.ref (He.ga K "are_counts")) := T.glo 16 rfl
theorem Fx.g_need_row (T : Fx K mg) : mg "need_row" = some (.ref (He.ga K "need_row")) := T.glo 17 rfl
theorem Fx.g_first_both (T : Fx K mg) : mg "first_both" = some (.ref (He.ga K "first_both")) := T.glo 18 rfl
theorem Fx.g_fares_both (T : Fx K mg) : mg "fares_both" = some (.ref (He.ga K "fares_both")) := T.glo 19 rfl
theorem Fx.g_behind_both (T : Fx K mg) : mg "behind_both" = some (.ref (He.ga K "behind_both")) := T.glo 20 rfl
theorem Fx.g_lead_at (T : Fx K mg) : mg "lead_at" = some (.ref (He.ga K "lead_at")) := T.glo 21 rfl
theorem Fx.g_need_both (T : Fx K mg) : mg "need_both" = some (.ref (He.ga K "need_both")) := T.glo 22 rfl
theorem Fx.g_ways_both (T : Fx K mg) : mg "ways_both" = some (.ref (He.ga K "ways_both")) := T.glo 23 rfl
theorem Fx.g_lead_range (T : Fx K mg) : mg "lead_range" = some (.ref (He.ga K "lead_range")) := T.glo 24 rfl
theorem Fx.g_extreme_of (T : Fx K mg) : mg "extreme_of" = some (.ref (He.ga K "extreme_of")) := T.glo 25 rfl
theorem Fx.g_need_truth (T : Fx K mg) : mg "need_truth" = some (.ref (He.ga K "need_truth")) := T.glo 26 rfl
theorem Fx.g_lead_row (T : Fx K mg) : mg "lead_row" = some (.ref (He.ga K "lead_row")) := T.glo 27 rfl
theorem Fx.g_never_less (T : Fx K mg) : mg "never_less" = some (.ref (He.ga K "never_less")) := T.glo 28 rfl
theorem Fx.g_are_alike (T : Fx K mg) : mg "are_alike" = some (.ref (He.ga K "are_alike")) := T.glo 29 rfl
theorem Fx.g_parting_row (T : Fx K mg) : mg "parting_row" = some (.ref (He.ga K "parting_row")) := T.glo 30 rfl
theorem Fx.g_lead_paper (T : Fx K mg) : mg "lead_paper" = some (.ref (He.ga K "lead_paper")) := T.glo 31 rfl
theorem Fx.g_is_number (T : Fx K mg) : mg "is_number" = some (.ref (He.ga K "is_number")) := T.glo 32 rfl
theorem Fx.g_is_both (T : Fx K mg) : mg "is_both" = some (.ref (He.ga K "is_both")) := T.glo 33 rfl
theorem Fx.g_is_table (T : Fx K mg) : mg "is_table" = some (.ref (He.ga K "is_table")) := T.glo 34 rfl
theorem Fx.g_does_lead (T : Fx K mg) : mg "does_lead" = some (.ref (He.ga K "does_lead")) := T.glo 35 rfl
theorem Fx.g_check_lead (T : Fx K mg) : mg "check_lead" = some (.ref (He.ga K "check_lead")) := T.glo 36 rfl
theorem Fx.g_lead_behind (T : Fx K mg) : mg "lead_behind" = some (.ref (He.ga K "lead_behind")) := T.glo 37 rfl
theorem Fx.g__law_mixed (T : Fx K mg) : mg "_law_mixed" = some (.ref (He.ga K "_law_mixed")) := T.glo 38 rfl
theorem Fx.g__law_folded (T : Fx K mg) : mg "_law_folded" = some (.ref (He.ga K "_law_folded")) := T.glo 39 rfl
theorem Fx.g__law_draw (T : Fx K mg) : mg "_law_draw" = some (.ref (He.ga K "_law_draw")) := T.glo 40 rfl
theorem Fx.g__law_begun (T : Fx K mg) : mg "_law_begun" = some (.ref (He.ga K "_law_begun")) := T.glo 41 rfl
theorem Fx.g__law_like (T : Fx K mg) : mg "_law_like" = some (.ref (He.ga K "_law_like")) := T.glo 42 rfl
theorem Fx.g__law_of (T : Fx K mg) : mg "_law_of" = some (.ref (He.ga K "_law_of")) := T.glo 43 rfl
theorem Fx.g__law_yard (T : Fx K mg) : mg "_law_yard" = some (.ref (He.ga K "_law_yard")) := T.glo 44 rfl
theorem Fx.g__law_bare (T : Fx K mg) : mg "_law_bare" = some (.ref (He.ga K "_law_bare")) := T.glo 45 rfl
theorem Fx.g__law_book (T : Fx K mg) : mg "_law_book" = some (.ref (He.ga K "_law_book")) := T.glo 46 rfl
theorem Fx.g__law_lets (T : Fx K mg) : mg "_law_lets" = some (.ref (He.ga K "_law_lets")) := T.glo 47 rfl
theorem Fx.g__law_step (T : Fx K mg) : mg "_law_step" = some (.ref (He.ga K "_law_step")) := T.glo 48 rfl
theorem Fx.g__law_sum (T : Fx K mg) : mg "_law_sum" = some (.ref (He.ga K "_law_sum")) := T.glo 49 rfl
theorem Fx.g__law_is_int (T : Fx K mg) : mg "_law_is_int" = some (.ref (He.ga K "_law_is_int")) := T.glo 50 rfl
theorem Fx.g__law_may (T : Fx K mg) : mg "_law_may" = some (.ref (He.ga K "_law_may")) := T.glo 51 rfl
theorem Fx.g__law_told (T : Fx K mg) : mg "_law_told" = some (.ref (He.ga K "_law_told")) := T.glo 52 rfl
theorem Fx.g__law_both (T : Fx K mg) : mg "_law_both" = some (.ref (He.ga K "_law_both")) := T.glo 53 rfl
theorem Fx.g__law_lead (T : Fx K mg) : mg "_law_lead" = some (.ref (He.ga K "_law_lead")) := T.glo 54 rfl
theorem Fx.g__law_depths (T : Fx K mg) : mg "_law_depths" = some (.ref (He.ga K "_law_depths")) := T.glo 55 rfl
theorem Fx.g__law_leads_by (T : Fx K mg) : mg "_law_leads_by" = some (.ref (He.ga K "_law_leads_by")) := T.glo 56 rfl
theorem Fx.g__law_is_way (T : Fx K mg) : mg "_law_is_way" = some (.ref (He.ga K "_law_is_way")) := T.glo 57 rfl
theorem Fx.g__law_right (T : Fx K mg) : mg "_law_right" = some (.ref (He.ga K "_law_right")) := T.glo 58 rfl
theorem Fx.g__law_paper_right (T : Fx K mg) : mg "_law_paper_right" = some (.ref (He.ga K "_law_paper_right")) := T.glo 59 rfl
theorem Fx.g_law (T : Fx K mg) : mg "law" = some (.ref (He.ga K "law")) := T.glo 60 rfl
theorem Fx.f_isinstance (T : Fx K mg) : mg "isinstance" = none := T.free 61 rfl
theorem Fx.f_len (T : Fx K mg) : mg "len" = none := T.free 62 rfl
theorem Fx.f_all (T : Fx K mg) : mg "all" = none := T.free 63 rfl
theorem Fx.f_zip (T : Fx K mg) : mg "zip" = none := T.free 64 rfl
theorem Fx.f_int (T : Fx K mg) : mg "int" = none := T.free 65 rfl
theorem Fx.f_bool (T : Fx K mg) : mg "bool" = none := T.free 66 rfl
theorem Fx.f_tuple (T : Fx K mg) : mg "tuple" = none := T.free 67 rfl
theorem Fx.f_list (T : Fx K mg) : mg "list" = none := T.free 68 rfl
theorem Fx.f_str (T : Fx K mg) : mg "str" = none := T.free 69 rfl
theorem Fx.f_sum (T : Fx K mg) : mg "sum" = none := T.free 70 rfl
theorem Fx.f_range (T : Fx K mg) : mg "range" = none := T.free 71 rfl
theorem Fx.f_max (T : Fx K mg) : mg "max" = none := T.free 72 rfl
theorem Fx.f_min (T : Fx K mg) : mg "min" = none := T.free 73 rfl
theorem Fx.f_enumerate (T : Fx K mg) : mg "enumerate" = none := T.free 74 rfl
theorem Fx.f_sorted (T : Fx K mg) : mg "sorted" = none := T.free 75 rfl
theorem Fx.f_repr (T : Fx K mg) : mg "repr" = none := T.free 76 rfl
theorem Fx.i_MOST_SEATS (T : Fx K mg) : ∃ t, mg "MOST_SEATS" = some (.int 6 t) := T.int 77 rfl
theorem Fx.i_MOST_FARES (T : Fx K mg) : ∃ t, mg "MOST_FARES" = some (.int 4 t) := T.int 78 rfl
theorem Fx.i_MOST_FARE (T : Fx K mg) : ∃ t, mg "MOST_FARE" = some (.int 99 t) := T.int 79 rfl
theorem Fx.i_MOST_FEE (T : Fx K mg) : ∃ t, mg "MOST_FEE" = some (.int 99 t) := T.int 80 rfl
theorem Fx.i_MOST_WORDS (T : Fx K mg) : ∃ t, mg "MOST_WORDS" = some (.int 7 t) := T.int 81 rfl
theorem Fx.i_MOST_DEEP (T : Fx K mg) : ∃ t, mg "MOST_DEEP" = some (.int 3 t) := T.int 82 rfl
theorem Fx.s_APART (T : Fx K mg) : ∃ t, mg "APART" = some (.str "apart" t) := T.str 83 rfl
theorem Fx.s_NESTED (T : Fx K mg) : ∃ t, mg "NESTED" = some (.str "nested" t) := T.str 84 rfl
theorem Fx.s_KEPT (T : Fx K mg) : ∃ t, mg "KEPT" = some (.str "kept" t) := T.str 85 rfl
theorem Fx.s_ALL (T : Fx K mg) : ∃ t, mg "ALL" = some (.str "all" t) := T.str 86 rfl
theorem Fx.s_ANY (T : Fx K mg) : ∃ t, mg "ANY" = some (.str "any" t) := T.str 87 rfl
theorem Fx.s_OUST (T : Fx K mg) : ∃ t, mg "OUST" = some (.str "oust" t) := T.str 88 rfl
theorem Fx.s_RISING (T : Fx K mg) : ∃ t, mg "RISING" = some (.str "rising" t) := T.str 89 rfl
theorem Fx.i_MOST_CALLS (T : Fx K mg) : ∃ t, mg "MOST_CALLS" = some (.int 400 t) := T.int 90 rfl
theorem Fx.s_TAKEN (T : Fx K mg) : ∃ t, mg "TAKEN" = some (.str "taken" t) := T.str 91 rfl
theorem Fx.s_OUSTED (T : Fx K mg) : ∃ t, mg "OUSTED" = some (.str "ousted" t) := T.str 92 rfl
theorem Fx.s_REFUSED (T : Fx K mg) : ∃ t, mg "REFUSED" = some (.str "refused" t) := T.str 93 rfl
theorem Fx.i_MOST_PAIRS (T : Fx K mg) : ∃ t, mg "MOST_PAIRS" = some (.int 20000 t) := T.int 94 rfl
theorem Fx.s_FORM (T : Fx K mg) : ∃ t, mg "FORM" = some (.str "form" t) := T.str 95 rfl
theorem Fx.s_TABLE (T : Fx K mg) : ∃ t, mg "TABLE" = some (.str "table" t) := T.str 96 rfl
theorem Fx.s_ROW (T : Fx K mg) : ∃ t, mg "ROW" = some (.str "row" t) := T.str 97 rfl
end
/-- a def of the text that keeps a promise, as callers want it -/
structure OkF (P : Program) (w : World) (K : PySem.W.Frag) (mg : Str → Option Value) (base : Heap) (k : Nat) (x : Str) (ps : List Str) (sp : Sp) : Prop where
  ex : ∃ fd, FnOk P w K mg base CX0 k (He.ga K x) fd ps sp ∧ Binds K fd ps []
  glo : mg x = some (.ref (He.ga K x))
  kp : PySem.W.keepIn K (.ref (He.ga K x)) = true
theorem mk_ok {P : Program} {w : World} {K : PySem.W.Frag} {mg : Str → Option Value} {base : Heap} {Nm ps : List Str} {k : Nat} {R : List PyData → PyData → Prop} (T : Fx K mg) (i : Nat) {x : Str} {params : Arguments} {body : List Stmt} {scope : Scope}
    (hd : fn[i]? = some ⟨(x, none), x, x, params, body, scope, [], []⟩) (S : FnScope Nm ps scope) (hg : fa[i]? = some (.glo x))
    (hb : ∀ (kV doc pm : Value) (an : Option Addr) (cdv ct : Value) (us : List Value), us.length = ps.length → bindArgs (PySem.W.fnOf x x params body scope .none kV doc pm an cdv ct) ⟨us, []⟩ = Pure.pure (ps.zip us))
    (h : ∀ (cdv : Value) (A : Around) (outer : List Env) (s : Shared) (H : Hp) (E : XK), Room k (A.deeper (envOfC x scope s.heap.objs.size (He.ga K x) cdv)) → ∀ dl d, R dl d → dl.length = ps.length →
      PSs (cxOf CX0 P w K mg base Nm x scope (He.ga K x) cdv A outer s H E).nox body (tR w K (startD Nm.length dl) d)) : OkF P w K mg base (k + 1) x ps (spD K ps.length R) := by
  obtain ⟨fd, F⟩ := T.says.def_ i hd
  exact ⟨⟨fd, ok_of F S h, FunD.bindsN F hb⟩, T.glo i hg, F.kp⟩
theorem OkF.mono {P : Program} {w : World} {K : PySem.W.Frag} {mg : Str → Option Value} {base : Heap} {j k : Nat} {x : Str} {ps : List Str} {sp : Sp} (O : OkF P w K mg base j x ps sp) (h : j ≤ k) : OkF P w K mg base k x ps sp :=
  let ⟨fd, F, b⟩ := O.ex
  ⟨⟨fd, F.mono h, b⟩, O.glo, O.kp⟩
theorem pd_fn {X : Cx} {ds : Ds} {d : PyData} {e : Expr} {es : List Expr} {pos p : Pos} {k k' : Nat} {ps : List Str} {R : List PyData → PyData → Prop} {n : Nat} {x : Str} {dl : List PyData} (O : OkF X.prog X.w X.K X.mg X.base k x ps (spD X.K n R)) (hr : Room k' X.A) (hR : R dl d) (ha : PA X (e :: es) (taD X.w X.K ds dl)) (hk : k ≤ k' := by decide)
    (hn : dl.length = n := by rfl) (hg : Gl X x := by rfl) (hdb : (x == ("__debug__" : Str)) = false := by decide) (he : starEach (e :: es) X.env = (false, eval e X.env) :: starEach es X.env := by rfl) (hpl : (backTo pos (starEach es X.env)).any (·.1) = false := by rfl) :
    PE X (.Call (.Name x p) (e :: es) [] pos) (teD X.w X.K ds d) := by
  obtain ⟨fd, F, b⟩ := O.ex
  exact pd_call F (hr.mono hk) O.glo O.kp b ha hR hn hg hdb he hpl
end G33
set_option Elab.async false
set_option linter.all false
set_option maxRecDepth 100000
set_option maxHeartbeats 1000000
namespace G33
open PySem PySem.Spec PyProof.Rows L2
/-! ### sum of a tuple of ints -/
theorem sumT_raw {prog : Program} {w : World} {A : Around} {E : Value → Shared → Prop} {s : Shared} {t : Addr} {its : List Value} {ns : List Int} {Q : Value → Shared → Prop} (hh : A.handled = none) (hl : s.heap.IsTuple t its.toArray) (hi : IntsAre its ns)
    (h : ∀ h' tk t', (∀ b o, s.heap.get? b = some o → h'.get? b = some o) → Q (.int ns.sum t') { s with heap := h', toks := tk }) :
    wpAny (model prog w) A (call (.builtin "sum") [.ref t]) Q E s := by
  obtain ⟨xs, e⟩ := hi.allInts.items
  have hn : numsOf (intItems xs).toList = ns := by
    rw [← e]
    exact hi.numsOf
  rw [nums_intItems] at hn
  rw [e] at hl
  refine PySem.W.ktm_sumG hh hl fun h' tk t' hk => ?_
  have z := h h' tk t' hk
  rw [preSum_eq, List.take_of_length_le (by simp), hn]
  exact z
def rSumT (K : PySem.W.Frag) : List V → Hp → VK → Prop := fun vs H Q => ∃ (a : Addr) (ns : List Int), vs = [V.ref a] ∧ SqT K H a (ns.map V.int) ∧ Q (.int ns.sum) H
theorem cr_sumT {X : Cx} (hc : X.calm = true) : CallR X (.builtin "sum") (rSumT X.K) := by
  intro pins s σ H vs us Q I r h
  obtain ⟨a, ns, rfl, hs, q⟩ := h
  obtain ⟨its, rv, hl, _⟩ := I.tuple hs
  rw [Vals.ref1 r]
  exact sumT_raw (I.ok.hd hc) hl rv.ints fun h' tk t' hk => ⟨.int _, H, I.kept hk, ⟨_, rfl⟩, q⟩
/-! ### (x, ..) * 1: the tuple itself -/
theorem tuple_mul1 (l : Addr) (items : Array Value) (n : Nat) (dd : Option Addr) (sl : Array (Option Value)) (u : Tok) :
    Meets (Builtin.«tuple.__mul__» ⟨[.ref l, .int 1 u], []⟩) (fun _ R s => s.heap.get? l = some { cls := .type "tuple", dict := dd, data := .seq items n, slots := sl } ∧ R (.ok (.ret (Value.ref l))) s) :=
  .of_wp fun prog w A R s h => by
    obtain ⟨hp, g, d, tk, os⟩ := s
    obtain ⟨hl, h⟩ := h
    have f1 := AutoSeq1.idx_int
    have c1 : (items.isEmpty || (1 : Int) == 1) = true := by simp
    wp_walk using AutoSeq1.wpAny_loadPart' hl
    repeat (first
      | (refine wpAny_ite_true (by simp) ?_; wp_walk using AutoSeq1.wpAny_loadPart' hl)
      | (refine wpAny_ite_false (by simp) ?_; wp_walk using AutoSeq1.wpAny_loadPart' hl)
      | (refine wpAny_ite_false (by decide) ?_; wp_walk using AutoSeq1.wpAny_loadPart' hl))
    exact ⟨_, rfl, h⟩
section
variable {X : Cx} {ds : Ds} {d d1 d2 : PyData} {a b e : Expr} {es : List Expr} {pos p : Pos}
theorem pd_sumT {ns : List Int} (hc : X.calm = true) (hm : X.mg "sum" = none) (ha : PE X e (teD X.w X.K ds (.tuple (ns.map .int)))) (hg : Gl X "sum" := by rfl) (he : starEach [e] X.env = (false, eval e X.env) :: starEach [] X.env := by rfl) : PE X (.Call (.Name "sum" p) [e] [] pos) (teD X.w X.K ds (.int ns.sum)) :=
  pd_callB (dl := [.tuple (ns.map .int)]) (cr_sumT hc) (fun vs H Q h g => by
    obtain ⟨v, rfl, hv⟩ := dpa1 h
    cases hv with
    | tup hs hd => exact ⟨_, ns, rfl, by rw [← dpa_ints hd]; exact hs, g.now (.int _)⟩) hm (ad_cons ha ad_nil he) hg (by decide +kernel) (by decide) (by decide) he
theorem pd_slL {xs : List PyData} {lo hi : Option Expr} {l u : Option Int} {p2 : Pos} (h : PE X e (teD X.w X.K ds (.list xs))) (hl : PO X lo (toD X.w X.K ds l)) (hu : PO X hi (toD X.w X.K ds u)) : PE X (.Subscript e (.Slice lo hi none p2) pos) (teD X.w X.K ds (.list (cutD xs l u))) :=
  pe_imp (pe_slice sl_list h hl hu) fun σ H Q q => ⟨q.1, fun v H1 e1 h1 => ⟨q.1.up e1, fun H2 e2 => ⟨q.1.up (e1.trans e2), fun H3 e3 => by
    have h3 := (h1.up e2).up e3
    have e := (e1.trans e2).trans e3
    cases h3 with
    | lst hs hd => exact ⟨_, _, rfl, hs, fun p hp => q.2 _ _ (e.trans (Evl.Ex.new hp)) (.lst (.inl (.inl upd_same)) ((dpa_cut hd l u).up (Evl.Ex.new hp)))⟩⟩⟩⟩
/-- list + list, list * int: of new lists (tracked) -/
def tkL (w : World) (K : PySem.W.Frag) (ds : Ds) (xs : List PyData) : TE := fun σ H Q => Lc w K H σ ds ∧ ∀ p vs H', Ex H H' → H' p = some (.lst vs) → DpAll K H' vs xs → Q (.ref p) H'
theorem lk_lst {dl : List PyData} (h : PA X es (taD X.w X.K ds dl)) (hl : dl.length ≤ 100000) : PE X (.List es pos) (tkL X.w X.K ds dl) :=
  pe_imp (pe_lst h) fun σ H Q q => ⟨q.1, fun vs H1 e1 h1 => ⟨by rw [dpa_len h1]; exact Evl.sz_of hl, fun p hp => q.2 _ _ _ (e1.trans (Evl.Ex.new hp)) upd_same (h1.up (Evl.Ex.new hp))⟩⟩
theorem lk_d {xs : List PyData} (h : PE X e (tkL X.w X.K ds xs)) : PE X e (teD X.w X.K ds (.list xs)) := pe_imp h fun σ H Q q => ⟨q.1, fun p vs H' e hp hd => q.2 _ _ e (.lst (.inl (.inl hp)) hd)⟩
theorem lk_cat {xs ys : List PyData} (h1 : PE X a (tkL X.w X.K ds xs)) (h2 : PE X b (tkL X.w X.K ds ys)) (hl : xs.length + ys.length ≤ 100000) : PE X (.BinOp a .Add b pos) (tkL X.w X.K ds (xs ++ ys)) :=
  pe_imp (pe_op op_cat h1 h2) fun σ H Q q => ⟨q.1, fun p vs H1 e1 hp hd => ⟨q.1.up e1, fun p2 vs2 H2 e2 hp2 hd2 => by
    refine ⟨p, p2, vs, vs2, rfl, rfl, e2 _ _ hp, hp2, ?_, fun r hr => q.2 _ _ _ ((e1.trans e2).trans (Evl.Ex.new hr)) upd_same ((dpa_append (hd.up e2) hd2).up (Evl.Ex.new hr))⟩
    rw [dpa_len hd, dpa_len hd2]
    exact Evl.sz_of hl⟩⟩
theorem lk_rep {xs : List PyData} {k : Int} (h1 : PE X a (tkL X.w X.K ds xs)) (h2 : PE X b (teD X.w X.K ds (.int k))) (h0 : 0 ≤ k) (hk : k ≤ 1000) (hl : xs.length ≤ 100) : PE X (.BinOp a .Mult b pos) (tkL X.w X.K ds (List.replicate k.toNat xs).flatten) :=
  pe_imp (pe_op op_rep h1 h2) fun σ H Q q => ⟨q.1, fun p vs H1 e1 hp hd => ⟨q.1.up e1, fun v2 H2 e2 hd2 => by
    cases hd2
    refine ⟨p, k, vs, rfl, rfl, e2 _ _ hp, by omega, by omega, ?_, fun r hr => q.2 _ _ _ ((e1.trans e2).trans (Evl.Ex.new hr)) upd_same ((dpa_rep (hd.up e2) _).up (Evl.Ex.new hr))⟩
    rw [dpa_len hd]
    refine Evl.sz_of ?_
    have : xs.length * k.toNat ≤ 100 * 1000 := Nat.mul_le_mul hl (by omega)
    omega⟩⟩
/-- (0,) * n for any n from 1 on -/
def rRep1 (K : PySem.W.Frag) : R2 := fun x y H Q => ∃ l xs, x = .ref l ∧ y = .int 1 ∧ SqT K H l xs ∧ Q (.ref l) H
theorem op_rep1 : OpR X (binaryOp .Mult) (rRep1 X.K) := by
  intro pins s σ H x y v u Q I rx ry h
  obtain ⟨l, xs, rfl, rfl, hT, q⟩ := h
  cases rx
  obtain ⟨t, rfl⟩ := ry
  obtain ⟨its, r, ⟨⟨cls, dd, data, sl⟩, ho, hc, n, hd⟩, hs⟩ := I.tuple hT
  simp only at hc hd
  subst hc hd
  refine wpAny_binaryOp_repeat_ref (T := "tuple") (U := "int") (by decide) ⟨_, ho, rfl⟩ (fun s' => typeIs_int s' 1 t) noFill_tuple_mul F.fills_int_mul F.slot_int_rmul repeat_tuple F.slot_int_index.lookup
    (call_meets F.slot_int_rmul (typeIs_int s 1 t) F.entry_int_rmul (F.args_int_rmul_2 _ _) (int_rmul_tuple 1 t l its.toArray n dd sl)
      ⟨ho, rfl, ⟨_, ho, rfl⟩, call_meets F.slot_tuple_mul ⟨_, ho, rfl⟩ F.entry_tuple_mul (F.args_tuple_mul_2 _ _) (tuple_mul1 l its.toArray n dd sl t) ⟨ho, ?_⟩⟩)
  exact ⟨.ref l, H, I, rfl, q⟩
theorem pd_repN {d : PyData} {k : Int} (h1 : PE X a (teD X.w X.K ds (.tuple [d]))) (h2 : PE X b (teD X.w X.K ds (.int k))) (hk : 1 ≤ k) (hk2 : k ≤ 1000) : PE X (.BinOp a .Mult b pos) (teD X.w X.K ds (.tuple (List.replicate k.toNat d))) := by
  by_cases h : k = 1
  · subst h
    exact pd_op op_rep1 (fun v w H Q a b g => by
      cases b
      cases a with
      | tup hs hd => exact ⟨_, _, rfl, rfl, hs, g.now (.tup hs hd)⟩) h1 h2
  · refine pd_eq (pd_repT h1 h2 (by simp) (by omega) hk2 (by simp)) ?_
    have : ∀ n : Nat, (List.replicate n [d]).flatten = List.replicate n d := by
      intro n
      induction n with
      | zero => rfl
      | succ n ih => rw [List.replicate_succ, List.flatten_cons, ih, List.replicate_succ]; rfl
    rw [this]
end
/-! ### a, b = e1, e2 with local names -/
section
variable {X : Cx} {ds : Ds} {d d1 d2 d3 : PyData} {a b c : Expr} {rest : List Stmt} {pos px py pz pt pt2 : Pos} {x y z : Str} {kt k2 : Nat}
theorem sr_par2 (i j : Nat) (hc : X.calm = true) (hN : X.N.Nodup) (ha : PA X [a, b] (taD X.w X.K ds [d1, d2])) (hr : PSs X rest (tR X.w X.K ((ds.set i (some d1)).set j (some d2)) d)) (hij : i ≠ j := by decide) (hi : X.N[i]? = some x := by rfl) (hj : X.N[j]? = some y := by rfl)
    (hx : X.env.scope.names.lookup x = some .local := by rfl) (hy : X.env.scope.names.lookup y = some .local := by rfl) (hw : swappedStores [.Tuple [.Name x px, .Name y py] kt pt] (.Tuple [a, b] k2 pt2) X.env = Pure.pure (some [x, y]) := by rfl)
    (hs : swapsWithSole [.Tuple [.Name x px, .Name y py] kt pt] (.Tuple [a, b] k2 pt2) pos.line X.env = Pure.pure false := by rfl) :
    PSs X (.Assign [.Tuple [.Name x px, .Name y py] kt pt] (.Tuple [a, b] k2 pt2) pos :: rest) (tR X.w X.K ds d) :=
  pss_imp (pss_cons (ps_par hc hN hi hj hij hx hy ha hw hs) hr) fun D σ H q => ⟨q.1, fun vs H1 e1 h1 => by
    obtain ⟨v, w, rfl, g1, g2⟩ := dpa2 h1
    exact ⟨v, w, rfl, ((q.1.up e1).set i g1).set j g2, fun u H2 e2 h2 => q.2 u H2 (e1.trans e2) h2⟩⟩
end
end G33
set_option Elab.async false
set_option linter.all false
set_option maxRecDepth 100000
set_option maxHeartbeats 1000000
namespace G33
open PySem PySem.Spec PyProof.Rows L2
/-! ### data that == takes -/
structure Shp (n : Nat) (d : PyData) : Prop where
  lay : d.canLay0 = true
  dep : d.depth ≤ n
theorem Shp.ok {n : Nat} {d : PyData} (h : Shp n d) (hn : n ≤ 64) : SeqAt.shaped d = true := by
  unfold SeqAt.shaped
  rw [h.lay, Bool.true_and]
  exact decide_eq_true (Nat.le_trans h.dep hn)
theorem Shp.le {n m : Nat} {d : PyData} (h : Shp n d) (hn : n ≤ m) : Shp m d := ⟨h.lay, Nat.le_trans h.dep hn⟩
theorem shp_int (i : Int) {n : Nat} : Shp n (.int i) := ⟨by simp [PyData.canLay0], by simp [PyData.depth]⟩
theorem shp_bool (i : Bool) {n : Nat} : Shp n (.bool i) := ⟨by simp [PyData.canLay0], by simp [PyData.depth]⟩
theorem shp_non {n : Nat} : Shp n .none := ⟨by simp [PyData.canLay0], by simp [PyData.depth]⟩
theorem shp_str {x : Str} {n : Nat} (h : PyData.canLay0 (.str x) = true) : Shp n (.str x) := ⟨h, by simp [PyData.depth]⟩
theorem shp_all {n : Nat} : ∀ {xs : List PyData}, (∀ x ∈ xs, Shp n x) → PyData.canLayAll0 xs = true ∧ PyData.depthAll xs ≤ n
  | [], _ => ⟨by simp [PyData.canLayAll0], by simp [PyData.depthAll]⟩
  | x :: xs, h => by
    have h1 := h x (by simp)
    have h2 := shp_all (xs := xs) fun y hy => h y (by simp [hy])
    refine ⟨by rw [PyData.canLayAll0, h1.lay, h2.1]; rfl, ?_⟩
    rw [PyData.depthAll]
    exact Nat.max_le.mpr ⟨h1.dep, h2.2⟩
theorem shp_tup {n : Nat} {xs : List PyData} (h : ∀ x ∈ xs, Shp n x) : Shp (n + 1) (.tuple xs) := ⟨by rw [PyData.canLay0]; exact (shp_all h).1, by rw [PyData.depth]; exact Nat.succ_le_succ (shp_all h).2⟩
theorem shp_lst {n : Nat} {xs : List PyData} (h : ∀ x ∈ xs, Shp n x) : Shp (n + 1) (.list xs) := ⟨by rw [PyData.canLay0]; exact (shp_all h).1, by rw [PyData.depth]; exact Nat.succ_le_succ (shp_all h).2⟩
theorem shp_nil {n : Nat} : Shp (n + 1) (.list []) := shp_lst fun x h => nomatch h
theorem shp_nilT {n : Nat} : Shp (n + 1) (.tuple []) := shp_tup fun x h => nomatch h
theorem shp_mapL {α : Type} {n : Nat} {f : α → PyData} {l : List α} (h : ∀ a ∈ l, Shp n (f a)) : Shp (n + 1) (.list (l.map f)) := shp_lst fun x hx => by
  obtain ⟨a, ha, rfl⟩ := List.mem_map.mp hx
  exact h a ha
theorem shp_mapT {α : Type} {n : Nat} {f : α → PyData} {l : List α} (h : ∀ a ∈ l, Shp n (f a)) : Shp (n + 1) (.tuple (l.map f)) := shp_tup fun x hx => by
  obtain ⟨a, ha, rfl⟩ := List.mem_map.mp hx
  exact h a ha
theorem shp_encL (l : List Int) {n : Nat} : Shp (n + 1) (encL l) := shp_mapT fun _ _ => shp_int _
theorem shp_ints (l : List Int) {n : Nat} : Shp (n + 1) (.list (l.map .int)) := shp_mapL fun _ _ => shp_int _
theorem shp_pr (p : Pr) {n : Nat} : Shp (n + 2) p.enc := shp_tup fun x hx => by
  simp only [List.mem_cons, List.not_mem_nil, or_false] at hx
  rcases hx with rfl | rfl | rfl | rfl | rfl
  · exact shp_encL _
  · exact shp_int _
  · exact shp_encL _
  · exact shp_int _
  · exact shp_int _
theorem shp_hall (h : Hall) {n : Nat} : Shp (n + 2) h.enc := shp_tup fun x hx => by
  simp only [List.mem_cons, List.not_mem_nil, or_false] at hx
  rcases hx with rfl | rfl
  · exact shp_int _
  · exact shp_encL _
theorem shp_ru : ∀ r : Ru, Shp (r.deep + 2) r.enc
  | .plain w l => by
    rw [Ru.enc]
    refine shp_tup fun x hx => ?_
    simp only [List.mem_cons, List.not_mem_nil, or_false] at hx
    rcases hx with rfl | rfl
    · exact shp_str (by cases w <;> decide +kernel)
    · exact shp_encL _
  | .two b r s => by
    rw [Ru.enc, show (Ru.two b r s).deep + 2 = (max r.deep s.deep + 2) + 1 by rw [Ru.deep]; omega]
    refine shp_tup fun x hx => ?_
    simp only [List.mem_cons, List.not_mem_nil, or_false] at hx
    rcases hx with rfl | rfl | rfl
    · exact shp_str (by cases b <;> decide +kernel)
    · exact (shp_ru r).le (by omega)
    · exact (shp_ru s).le (by omega)
  | .oust r f => by
    rw [Ru.enc, show (Ru.oust r f).deep + 2 = (r.deep + 2) + 1 by rw [Ru.deep]; omega]
    refine shp_tup fun x hx => ?_
    simp only [List.mem_cons, List.not_mem_nil, or_false] at hx
    rcases hx with rfl | rfl | rfl
    · exact shp_str (by decide +kernel)
    · exact shp_ru r
    · exact shp_int _
theorem sh_nilT : SeqAt.shaped (.tuple []) = true := Shp.ok (n := 1) shp_nilT (by decide)
theorem sh_nilL : SeqAt.shaped (.list []) = true := Shp.ok (n := 1) shp_nil (by decide)
theorem lle {n m : Nat} (h : Nat.ble n m = true) : n ≤ m := Nat.le_of_ble_eq_true h
theorem w_t {X : Cx} {e : Expr} {t : TT} (h : PW X e t) : PT X e t := h.pt
/-! what == answers -/
theorem eqv_int (a b : Int) : PyData.eqv (.int a) (.int b) = decide (a = b) := by rw [PyData.eqv, Bool.beq_eq_decide_eq]
theorem eqv_str (a b : Str) : PyData.eqv (.str a) (.str b) = decide (a = b) := by rw [PyData.eqv, Bool.beq_eq_decide_eq]
theorem eqv_bool (a b : Bool) : PyData.eqv (.bool a) (.bool b) = decide (a = b) := by rw [PyData.eqv, Bool.beq_eq_decide_eq]
theorem eqv_intB (a b : Int) : PyData.eqv (.int a) (.int b) = (a == b) := by rw [PyData.eqv]
theorem eqv_tup (xs ys : List PyData) : PyData.eqv (.tuple xs) (.tuple ys) = PyData.eqvAll xs ys := by rw [PyData.eqv]
theorem eqv_lst (xs ys : List PyData) : PyData.eqv (.list xs) (.list ys) = PyData.eqvAll xs ys := by rw [PyData.eqv]
theorem eqvAll_nil (xs : List PyData) : PyData.eqvAll xs [] = xs.isEmpty := by
  cases xs <;> simp [PyData.eqvAll]
theorem eqvAll_ints : ∀ a b : List Int, PyData.eqvAll (a.map .int) (b.map .int) = decide (a = b)
  | [], [] => by simp [PyData.eqvAll]
  | [], _ :: _ => by simp [PyData.eqvAll]
  | _ :: _, [] => by simp [PyData.eqvAll]
  | x :: a, y :: b => by
    rw [List.map_cons, List.map_cons, PyData.eqvAll, eqv_int, eqvAll_ints a b, ← Bool.decide_and]
    simp
theorem eqv_encL (a b : List Int) : PyData.eqv (encL a) (encL b) = decide (a = b) := by rw [eqv_tup, eqvAll_ints]
theorem eqv_intsL (a b : List Int) : PyData.eqv (.list (a.map .int)) (.list (b.map .int)) = decide (a = b) := by rw [eqv_lst, eqvAll_ints]
theorem eqv_nilL (xs : List PyData) : PyData.eqv (.list xs) (.list []) = xs.isEmpty := by rw [eqv_lst, eqvAll_nil]
theorem eqv_nilT (xs : List PyData) : PyData.eqv (.tuple xs) (.tuple []) = xs.isEmpty := by rw [eqv_tup, eqvAll_nil]
theorem eqv_pr (p q : Pr) : PyData.eqv p.enc q.enc = decide (p = q) := by
  rw [eqv_tup]
  simp only [PyData.eqvAll, eqv_encL, eqv_int]
  cases p
  cases q
  simp only [Pr.mk.injEq, Bool.and_true, ← Bool.decide_and]
/-! cuts -/
theorem cutD_map {α β : Type} (f : α → β) (xs : List α) (l u : Option Int) : cutD (xs.map f) l u = (cutD xs l u).map f := by
  unfold cutD
  rw [List.length_map, List.map_take, List.map_drop]
theorem cutD_1 {α : Type} (xs : List α) : cutD xs (some 1) none = xs.tail := by
  unfold cutD
  rw [show (1 : Int) = ((1 : Nat) : Int) by rfl, HT.sIx_nat, HT.sIx_none]
  cases xs with
  | nil => simp
  | cons x xs => simp
theorem cutD_to {α : Type} (xs : List α) (k : Nat) : cutD xs none (some (k : Int)) = xs.take k := by
  unfold cutD
  rw [HT.sIx_nat, HT.sIx_none, List.drop_zero, Nat.sub_zero, ← List.take_take, List.take_length]
theorem cutD_from {α : Type} (xs : List α) (k : Nat) : cutD xs (some (k : Int)) none = xs.drop k := by
  unfold cutD
  rw [HT.sIx_nat, HT.sIx_none]
  by_cases h : k ≤ xs.length
  · rw [Nat.min_eq_left h, List.take_of_length_le (by simp)]
  · rw [Nat.min_eq_right (by omega), List.drop_of_length_le (Nat.le_refl _), List.drop_of_length_le (by omega)]
    simp
theorem cut_to (l : List Int) (i : Nat) : PyData.tuple (cutD (l.map .int) none (some (i : Int))) = .tuple ((l.take i).map .int) := by rw [cutD_map, cutD_to]
theorem cut_to1 (l : List Int) (i : Nat) : PyData.tuple (cutD (l.map .int) none (some ((i : Int) + 1))) = .tuple ((l.take (i + 1)).map .int) := cut_to l (i + 1)
theorem cut_from1 (l : List Int) (i : Nat) : PyData.tuple (cutD (l.map .int) (some ((i : Int) + 1)) none) = .tuple ((l.drop (i + 1)).map .int) := by rw [cutD_map, show ((i : Int) + 1) = ((i + 1 : Nat) : Int) by omega, cutD_from]
/-! items -/
theorem atI_nat {α : Type} (xs : List α) (k : Nat) (h : k < xs.length) : atI xs (k : Int) = xs[k]? := by
  unfold atI ixN
  rw [if_pos (by omega), if_pos (by omega), Int.toNat_natCast]
  rfl
theorem atI_head {α : Type} (x : α) (xs : List α) : atI (x :: xs) 0 = some x := by
  have := atI_nat (x :: xs) 0 (by simp)
  simpa using this
theorem atI_last {α : Type} (xs : List α) (h : xs ≠ []) : atI xs (-1) = xs.getLast? := by
  have hl := List.length_pos_iff.mpr h
  unfold atI ixN
  rw [if_neg (by decide), if_pos (by omega)]
  show xs[(-1 + (xs.length : Int)).toNat]? = _
  rw [List.getLast?_eq_getElem?]
  congr 1
  omega
theorem atI_ints (xs : List Int) (k : Nat) (h : k < xs.length) : atI (xs.map PyData.int) (k : Int) = some (.int (xs.getD k 0)) := by
  rw [atI_nat _ _ (by simpa using h), List.getElem?_map, List.getElem?_eq_getElem h, List.getD_eq_getElem?_getD, List.getElem?_eq_getElem h]
  rfl
theorem atI_map {α : Type} [Inhabited α] (f : α → PyData) (xs : List α) (k : Nat) (h : k < xs.length) : atI (xs.map f) (k : Int) = some (f (xs[k])) := by
  rw [atI_nat _ _ (by simpa using h), List.getElem?_map, List.getElem?_eq_getElem h]
  rfl
end G33
set_option Elab.async false
set_option linter.all false
set_option maxRecDepth 100000
set_option maxHeartbeats 1000000
namespace G33
open PySem PySem.Spec PyProof.Rows L2
/-! ### walks that outlive changes -/
def Walks (K : PySem.W.Frag) (J : It) (H1 : Hp) (xs : List PyData) : Prop := (∀ (i : Nat) x, xs[i]? = some x → J.go i H1 ∧ ∀ u H2, J.yld i H1 u H2 → Ex H1 H2 ∧ Dp K H2 u x) ∧ J.stop xs.length H1
/-- v (of the data d) walked as xs, in every heap in which it still holds d -/
def wvD (w : World) (K : PySem.W.Frag) (ds : Ds) (d : PyData) (xs : List PyData) : TI := fun σ H R => Lc w K H σ ds ∧ ∀ J v H', Ex H H' → Dp K H' v d → (∀ H1, Dp K H1 v d → Walks K J H1 xs) → R J H'
section
variable {X : Cx} {ds : Ds} {tg a b e : Expr} {p pos tpos : Pos} {xs ys : List PyData}
theorem wv_list (h : PE X e (teD X.w X.K ds (.list xs))) : PI X tg e (wvD X.w X.K ds (.list xs) xs) :=
  pi_imp (pi_list h) fun σ H R q => ⟨q.1, fun v H1 e1 h1 => by
    cases h1 with
    | lst hs hd =>
      refine ⟨_, rfl, ⟨_, hs⟩, q.2 _ _ _ e1 (.lst hs hd) fun H2 h2 => ?_⟩
      cases h2 with
      | lst hs hd =>
        refine ⟨fun i x hx => ?_, _, hs, by rw [dpa_len hd]; exact Nat.le_refl _⟩
        obtain ⟨v, hv, dv⟩ := dpa_get hd hx
        refine ⟨⟨_, v, hs, hv⟩, fun u H3 y => ?_⟩
        obtain ⟨rfl, y⟩ := y
        have := y _ hs
        rw [hv] at this
        cases this
        exact ⟨Evl.Ex.refl _, dv⟩⟩
theorem wv_tup (h : PE X e (teD X.w X.K ds (.tuple xs))) : PI X tg e (wvD X.w X.K ds (.tuple xs) xs) :=
  pi_imp (pi_tup h) fun σ H R q => ⟨q.1, fun v H1 e1 h1 => by
    cases h1 with
    | tup hs hd =>
      refine ⟨_, rfl, ⟨_, hs⟩, q.2 _ _ _ e1 (.tup hs hd) fun H2 h2 => ?_⟩
      cases h2 with
      | tup hs hd =>
        refine ⟨fun i x hx => ?_, _, hs, by rw [dpa_len hd]; exact Nat.le_refl _⟩
        obtain ⟨v, hv, dv⟩ := dpa_get hd hx
        refine ⟨⟨_, v, hs, hv⟩, fun u H3 y => ?_⟩
        obtain ⟨rfl, y⟩ := y
        have := y _ hs
        rw [hv] at this
        cases this
        exact ⟨Evl.Ex.refl _, dv⟩⟩
theorem walks_range {K : PySem.W.Frag} {H : Hp} {i j : Int} : Walks K (Itr i (j - i).toNat) H ((rgD i j).map .int) := wk_range (H := H) H (Evl.Ex.refl H)
theorem wv_range2 {i j : Int} (hm : X.mg "range" = none) (ha : PE X a (teD X.w X.K ds (.int i))) (hb : PE X b (teD X.w X.K ds (.int j))) (hk : -(2 ^ 62) ≤ i ∧ i < 2 ^ 62 ∧ -(2 ^ 62) ≤ j ∧ j < 2 ^ 62) (hg : Gl X "range" := by rfl)
    (h1 : starEach [a, b] X.env = [(false, eval a X.env), (false, eval b X.env)] := by rfl) (h2 : starEach [b] X.env = [(false, eval b X.env)] := by rfl) : PI X tg (.Call (.Name "range" p) [a, b] [] pos) (wvD X.w X.K ds .none ((rgD i j).map .int)) :=
  pi_imp (pi_range2 hg hm (ad_cons ha (ad_cons hb ad_nil h2) (by rw [h1, h2])) h1 h2) fun σ H R q => ⟨q.1, fun vs H1 e1 h => by
    obtain ⟨v, w, rfl, g1, g2⟩ := dpa2 h
    cases g1
    cases g2
    exact ⟨i, j, rfl, hk, q.2 _ .non _ e1 .non fun _ _ => walks_range⟩⟩
theorem wv_range1 {j : Int} (hm : X.mg "range" = none) (ha : PE X a (teD X.w X.K ds (.int j))) (hk : -(2 ^ 62) ≤ j ∧ j < 2 ^ 62) (hg : Gl X "range" := by rfl) (h1 : starEach [a] X.env = [(false, eval a X.env)] := by rfl) : PI X tg (.Call (.Name "range" p) [a] [] pos) (wvD X.w X.K ds .none ((rgD 0 j).map .int)) :=
  pi_imp (pi_range1 hg hm (ad_cons ha ad_nil h1) h1) fun σ H R q => ⟨q.1, fun vs H1 e1 h => by
    obtain ⟨v, rfl, g1⟩ := dpa1 h
    cases g1
    refine ⟨j, rfl, hk.1, hk.2, q.2 _ .non _ e1 .non fun H2 _ => ?_⟩
    have := walks_range (K := X.K) (H := H2) (i := 0) (j := j)
    rw [Int.sub_zero] at this
    exact this⟩
theorem wv_eq {d : PyData} (h : PI X tg e (wvD X.w X.K ds d xs)) (q : xs = ys) : PI X tg e (wvD X.w X.K ds d ys) := q ▸ h
end
/-! ### for: the Hoare rule -/
section
variable {X : Cx} {ι : Type} {ds : Ds} {d : PyData} {tg iter : Expr} {body rest : List Stmt} {pos : Pos} {P N : L2.St → Hp → Prop} {R : V → Hp → Prop}
/-- the code's family of readings, one for each turn -/
def tHf {α : Type} (ok : α → Prop) (B M : α → L2.St → Hp → Prop) (R : V → Hp → Prop) : TS := fun D σ H => ∃ a, ok a ∧ tH (B a) (M a) R D σ H
theorem hf_of {α : Type} {ok : α → Prop} {B M : α → L2.St → Hp → Prop} (h : ∀ a, ok a → PSs X body (tH (B a) (M a) R)) : PSs X body (tHf ok B M R) :=
  ⟨fun pins s σ H D I ⟨a, k, q⟩ => (h a k).run pins s σ H D I q⟩
theorem hp_for {g : TG} (items : List ι) (en : ι → PyData) (I : V → Nat → L2.St → Hp → Prop) (B : V → Nat → ι → L2.St → Hp → Prop) (hx : ∀ e o, ¬ X.xe e o) (hc : X.calm = true) (hi : PI X tg iter (wvD X.w X.K ds d (items.map en))) (hg : PG X tg g)
    (hL : ∀ σ H, P σ H → Lc X.w X.K H σ ds) (h0 : ∀ σ H v H', P σ H → Ex H H' → Dp X.K H' v d → I v 0 σ H') (hd : ∀ v i σ H, I v i σ H → Dp X.K H v d) (hn : ∀ v σ H, I v items.length σ H → N σ H)
    (hgB : ∀ v i a σ H u H2 (Q : L2.St → Hp → Prop), items[i]? = some a → I v i σ H → Ex H H2 → Dp X.K H2 u (en a) → (∀ σ2, B v i a σ2 H2 → Q σ2 H2) → g u σ H2 Q)
    (hb : ∀ v i a, items[i]? = some a → PSs X body (tH (B v i a) (I v (i + 1)) R))
    (hs : ∀ z, foldedSetIterable iter X.env z = Pure.pure z := by intro _; rfl) : PS X (.For tg iter body [] pos) (tH P N R) := by
  have hp : PassesOwn (model X.prog X.w) X.A X.env X.xe := fun e o z => absurd z (hx e o)
  refine ps_imp (ps_for hp hc hi hg (hf_of (α := V × Nat × ι) (ok := fun a => items[a.2.1]? = some a.2.2) (B := fun a => B a.1 a.2.1 a.2.2) (M := fun a => I a.1 (a.2.1 + 1)) (R := R) fun a k => hb a.1 a.2.1 a.2.2 k) hs) fun D σ H q => ?_
  refine ⟨hL σ H q.1, fun J v H' e dv wk => ⟨fun i m σ1 H1 => m = items.length - i ∧ i ≤ items.length ∧ I v i σ1 H1, ⟨items.length, rfl, Nat.zero_le _, h0 σ H v H' q.1 e dv⟩, ?_⟩⟩
  rintro i m σ1 H1 ⟨rfl, hi', i1⟩
  obtain ⟨wg, ws⟩ := wk H1 (hd _ _ _ _ i1)
  by_cases hlt : i < items.length
  · refine .inr ?_
    have hit : items[i]? = some items[i] := List.getElem?_eq_getElem hlt
    have hmap : (items.map en)[i]? = some (en items[i]) := by rw [List.getElem?_map, hit]; rfl
    obtain ⟨g1, g2⟩ := wg i _ hmap
    refine ⟨g1, fun σ' H' => I v (i + 1) σ' H', fun σ' H' z => ⟨items.length - (i + 1), by omega, rfl, by omega, z⟩, fun u H2 y => ?_⟩
    obtain ⟨e2, d2⟩ := g2 u H2 y
    exact hgB v i items[i] σ1 H1 u H2 _ hit i1 e2 d2 fun σ2 b2 => ⟨(v, i, items[i]), hit, b2, fun _ _ z => z, q.2.2⟩
  · have ei : i = items.length := by omega
    subst ei
    rw [List.length_map] at ws
    exact .inl ⟨ws, q.2.1 _ _ (hn _ _ _ i1)⟩
/-- for x in .. : with one name -/
theorem hp_for1 {x : Str} {px : Pos} (t : Nat) (items : List ι) (en : ι → PyData) (I : V → Nat → L2.St → Hp → Prop) (B : V → Nat → ι → L2.St → Hp → Prop) (hx : ∀ e o, ¬ X.xe e o) (hc : X.calm = true) (hN : X.N.Nodup) (hi : PI X (.Name x px) iter (wvD X.w X.K ds d (items.map en)))
    (hL : ∀ σ H, P σ H → Lc X.w X.K H σ ds) (h0 : ∀ σ H v H', P σ H → Ex H H' → Dp X.K H' v d → I v 0 σ H') (hd : ∀ v i σ H, I v i σ H → Dp X.K H v d) (hn : ∀ v σ H, I v items.length σ H → N σ H)
    (hgB : ∀ v i a σ H u H2, items[i]? = some a → I v i σ H → Ex H H2 → Dp X.K H2 u (en a) → B v i a (σ.set t (some u)) H2)
    (hb : ∀ v i a, items[i]? = some a → PSs X body (tH (B v i a) (I v (i + 1)) R)) (ht : X.N[t]? = some x := by rfl) (hl : Loc X.env.scope x := by first | exact .inl rfl | exact .inr rfl) (hf : X.fn x = true ∨ X.env.scope.names.lookup x = some .local := by first | exact .inl rfl | exact .inr rfl)
    (hs : ∀ z, foldedSetIterable iter X.env z = Pure.pure z := by intro _; rfl) : PS X (.For (.Name x px) iter body [] pos) (tH P N R) :=
  hp_for items en I B hx hc hi (pg_name hN ht hl hf) hL h0 hd hn (fun v i a σ H u H2 Q h1 h2 h3 h4 k => k _ (hgB v i a σ H u H2 h1 h2 h3 h4)) hb hs
/-! ### straight code that goes on -/
def tN (w : World) (K : PySem.W.Frag) (ds ds' : Ds) : TS := fun D σ H => Lc w K H σ ds ∧ ∀ σ' H', Ex H H' → Lc w K H' σ' ds' → D.nx σ' H'
variable {ds1 ds2 : Ds} {d1 : PyData} {st : Stmt} {x : Str} {e : Expr} {pos' : Pos}
theorem sn_nil : PSs X [] (tN X.w X.K ds ds) := pss_imp pss_nil fun D σ H q => q.2 σ H (Evl.Ex.refl H) q.1
theorem sn_eq {sts : List Stmt} (h : PSs X sts (tN X.w X.K ds ds1)) (q : ds1 = ds2) : PSs X sts (tN X.w X.K ds ds2) := q ▸ h
theorem sn_no {c : Expr} {as : List Stmt} (hc : PT X c (ttD X.w X.K ds false)) (hr : PSs X rest (tN X.w X.K ds ds2)) : PSs X (.If c as [] pos :: rest) (tN X.w X.K ds ds2) :=
  pss_imp (pss_cons (ps_if hc pss_never pss_nil) hr) fun D σ H q => ⟨q.1, fun H' e => iteF ⟨q.1.up e, fun σ' H2 e2 h2 => q.2 σ' H2 (e.trans e2) h2⟩⟩
theorem sn_asg (i : Nat) (hN : X.N.Nodup) (he : PE X e (teD X.w X.K ds d1)) (hr : PSs X rest (tN X.w X.K (ds.set i (some d1)) ds2)) (hi : X.N[i]? = some x := by rfl) (hx : Loc X.env.scope x := by first | exact .inl rfl | exact .inr rfl)
    (hs : swapsWith e (some (.Name x pos')) pos.line X.env = Pure.pure false := by rfl) (hf : X.fn x = true ∨ X.env.scope.names.lookup x = some .local := by first | exact .inl rfl | exact .inr rfl) : PSs X (.Assign [.Name x pos'] e pos :: rest) (tN X.w X.K ds ds2) :=
  pss_imp (pss_cons (ps_set hN hi hx he hs hf) hr) fun D σ H q => ⟨q.1, fun v H1 e1 h1 => ⟨(q.1.up e1).set i h1, fun σ' H2 e2 h2 => q.2 σ' H2 (e1.trans e2) h2⟩⟩
/-- for x in ..: straight code -/
theorem sr_for1 {dd : PyData} {px : Pos} (t : Nat) (items : List ι) (en : ι → PyData) (di : Nat → Ds) (hx : ∀ e o, ¬ X.xe e o) (hc : X.calm = true) (hN : X.N.Nodup) (hi : PI X (.Name x px) iter (wvD X.w X.K (di 0) d (items.map en)))
    (hb : ∀ i a, items[i]? = some a → PSs X body (tN X.w X.K ((di i).set t (some (en a))) (di (i + 1)))) (hr : PSs X rest (tR X.w X.K (di items.length) dd)) (ht : X.N[t]? = some x := by rfl) (hl : Loc X.env.scope x := by first | exact .inl rfl | exact .inr rfl) (hf : X.fn x = true ∨ X.env.scope.names.lookup x = some .local := by first | exact .inl rfl | exact .inr rfl)
    (hs : ∀ z, foldedSetIterable iter X.env z = Pure.pure z := by intro _; rfl) : PSs X (.For (.Name x px) iter body [] pos :: rest) (tR X.w X.K (di 0) dd) := by
  refine ⟨fun pins s σ0 H0 D I q => ?_⟩
  have key : PS X (.For (.Name x px) iter body [] pos) (tH (fun σ H => σ = σ0 ∧ H = H0) (fun σ H => Ex H0 H ∧ Lc X.w X.K H σ (di items.length)) (fun _ _ => False)) :=
    hp_for1 t items en (fun v i σ H => Ex H0 H ∧ Dp X.K H v d ∧ Lc X.w X.K H σ (di i)) (fun v i a σ H => Ex H0 H ∧ Dp X.K H v d ∧ Lc X.w X.K H σ ((di i).set t (some (en a)))) hx hc hN hi (fun σ H h => by obtain ⟨rfl, rfl⟩ := h; exact q.1)
      (fun σ H v H' h e dv => by obtain ⟨rfl, rfl⟩ := h; exact ⟨e, dv, q.1.up e⟩) (fun v i σ H h => h.2.1) (fun v σ H h => ⟨h.1, h.2.2⟩)
      (fun v i a σ H u H2 _ h e du => ⟨h.1.trans e, h.2.1.up e, (h.2.2.up e).set t du⟩)
      (fun v i a hi => pss_imp (hb i a hi) fun D σ H z => ⟨z.1.2.2, fun σ' H' e l => z.2.1 _ _ ⟨z.1.1.trans e, z.1.2.1.up e, l⟩⟩) ht hl hf hs
  exact (pss_cons key hr).run pins s σ0 H0 D I ⟨⟨rfl, rfl⟩, fun σ' H' h => ⟨h.2, fun v H2 e2 d2 => q.2 v H2 (h.1.trans e2) d2⟩, fun _ _ h => h.elim⟩
end
theorem nox_xe {X : Cx} : ∀ (e : Value) (o : Shared), ¬ X.nox.xe e o := fun _ _ h => h
/-! ### while: the Hoare rule -/
theorem hp_while {X : Cx} {c : Expr} {body : List Stmt} {pos : Pos} {P N : L2.St → Hp → Prop} {R : V → Hp → Prop} {α : Type} (I : α → L2.St → Hp → Prop) (ms : α → Nat) (go : α → Bool) (dsf : α → Ds) (hx : ∀ e o, ¬ X.xe e o)
    (h0 : ∀ σ H, P σ H → ∃ a, I a σ H) (hL : ∀ a σ H, I a σ H → Lc X.w X.K H σ (dsf a)) (he : ∀ a σ H H', I a σ H → Ex H H' → I a σ H') (hc : ∀ a, (∃ σ H, I a σ H) → PT X c (ttD X.w X.K (dsf a) (go a)))
    (hb : ∀ a, go a = true → PSs X body (tH (I a) (fun σ H => ∃ a', ms a' < ms a ∧ I a' σ H) R)) (hn : ∀ a σ H, go a = false → I a σ H → N σ H) : PS X (.While c body [] pos) (tH P N R) := by
  have hp : PassesOwn (model X.prog X.w) X.A X.env X.xe := fun e o z => absurd z (hx e o)
  have hcU : PT X c (fun σ H Q => ∃ a, (∃ σ H, I a σ H) ∧ ttD X.w X.K (dsf a) (go a) σ H Q) := ⟨fun pins s σ H Q I ⟨a, g, q⟩ => (hc a g).run pins s σ H Q I q⟩
  refine ps_imp (ps_while hp hcU (hf_of (α := α) (ok := fun a => go a = true) (B := I) (M := fun a σ H => ∃ a', ms a' < ms a ∧ I a' σ H) (R := R) fun a k => hb a k)) fun D σ H q => ?_
  obtain ⟨a0, i0⟩ := h0 σ H q.1
  refine ⟨fun m σ H => ∃ a, m = ms a ∧ I a σ H, ⟨_, a0, rfl, i0⟩, ?_⟩
  rintro m σ1 H1 ⟨a, rfl, i1⟩
  refine ⟨a, ⟨_, _, i1⟩, hL a σ1 H1 i1, fun H2 e2 => ?_⟩
  cases hg : go a with
  | true => exact iteT ⟨fun σ' H' => ∃ a', ms a' < ms a ∧ I a' σ' H', fun σ' H' ⟨a', hm, z⟩ => ⟨_, hm, a', rfl, z⟩, a, hg, he a _ _ _ i1 e2, fun _ _ z => z, q.2.2⟩
  | false => exact iteF (q.2.1 _ _ (hn a _ _ hg (he a _ _ _ i1 e2)))
end G33
set_option Elab.async false
set_option linter.all false
set_option maxRecDepth 100000
set_option maxHeartbeats 1000000
namespace G33
open PySem PySem.Spec PyProof.Rows L2
/-! ### what may be forgotten -/
inductive SubD : Ds → Ds → Prop where
  | nil : SubD [] []
  | same {o : Option PyData} {a b : Ds} (h : SubD a b) : SubD (o :: a) (o :: b)
  | skip {o : Option PyData} {a b : Ds} (h : SubD a b) : SubD (none :: a) (o :: b)
theorem SubD.get {a b : Ds} (s : SubD a b) : a.length = b.length ∧ ∀ (i : Nat) d, a[i]? = some (some d) → b[i]? = some (some d) := by
  induction s with
  | nil => exact ⟨rfl, fun i d h => by simp at h⟩
  | same h ih => exact ⟨by simp [ih.1], fun i d e => by
      cases i with
      | zero => simpa using e
      | succ i => simpa using ih.2 i d (by simpa using e)⟩
  | skip h ih => exact ⟨by simp [ih.1], fun i d e => by
      cases i with
      | zero => simp at e
      | succ i => simpa using ih.2 i d (by simpa using e)⟩
theorem SubD.lc {K : PySem.W.Frag} {H : Hp} {σ : L2.St} {a b : Ds} (s : SubD a b) (L : Lc w K H σ b) : Lc w K H σ a := L.weak s.get.1 s.get.2
section
variable {X : Cx} {ι : Type} {ds ds1 ds2 : Ds} {d dd : PyData} {tg iter : Expr} {body rest sts : List Stmt} {pos : Pos}
theorem sn_sub (s : SubD ds2 ds1) (h : PSs X sts (tN X.w X.K ds ds1)) : PSs X sts (tN X.w X.K ds ds2) := pss_imp h fun D σ H q => ⟨q.1, fun σ' H' e l => q.2 σ' H' e (s.lc l)⟩
theorem sr_sub (s : SubD ds2 ds1) (h : PSs X sts (tR X.w X.K ds2 d)) : PSs X sts (tR X.w X.K ds1 d) := pss_imp h fun D σ H q => ⟨s.lc q.1, q.2⟩
/-- for x, y in ..: straight code -/
theorem sr_for2 {x y : Str} {px py pt : Pos} {kk : Nat} (i j : Nat) (items : List ι) (ea eb : ι → PyData) (di : Nat → Ds) (hij : i ≠ j) (hx : ∀ e o, ¬ X.xe e o) (hc : X.calm = true) (hN : X.N.Nodup) (hi : PI X (.Tuple [.Name x px, .Name y py] kk pt) iter (wiD X.w X.K (di 0) (items.map fun a => .tuple [ea a, eb a])))
    (hb : ∀ n a, items[n]? = some a → PSs X body (tN X.w X.K (((di n).set i (some (ea a))).set j (some (eb a))) (di (n + 1)))) (hr : PSs X rest (tR X.w X.K (di items.length) dd)) (h1 : X.N[i]? = some x := by rfl) (h2 : X.N[j]? = some y := by rfl)
    (hl : Loc X.env.scope x := by first | exact .inl rfl | exact .inr rfl) (hl2 : Loc X.env.scope y := by first | exact .inl rfl | exact .inr rfl) (hf : X.fn x = true ∨ X.env.scope.names.lookup x = some .local := by first | exact .inl rfl | exact .inr rfl) (hf2 : X.fn y = true ∨ X.env.scope.names.lookup y = some .local := by first | exact .inl rfl | exact .inr rfl)
    (hs : ∀ z, foldedSetIterable iter X.env z = Pure.pure z := by intro _; rfl) : PSs X (.For (.Tuple [.Name x px, .Name y py] kk pt) iter body [] pos :: rest) (tR X.w X.K (di 0) dd) := by
  have hp : PassesOwn (model X.prog X.w) X.A X.env X.xe := fun e o z => absurd z (hx e o)
  have hU : PSs X body (fun D σ H => ∃ n a, items[n]? = some a ∧ tN X.w X.K (((di n).set i (some (ea a))).set j (some (eb a))) (di (n + 1)) D σ H) :=
    ⟨fun pins s σ H D I ⟨n, a, k, q⟩ => (hb n a k).run pins s σ H D I q⟩
  refine pss_imp (pss_cons (ps_for hp hc hi (pg_tup hc (pgs_cons (pg_name hN h1 hl hf) (pgs_cons (pg_name hN h2 hl2 hf2) pgs_nil))) hU hs) hr) fun D σ H q => ?_
  refine ⟨q.1, fun J H' e0 wk => ⟨fun n m σ1 H1 => m = items.length - n ∧ n ≤ items.length ∧ Ex H' H1 ∧ Lc X.w X.K H1 σ1 (di n), ⟨items.length, rfl, Nat.zero_le _, Evl.Ex.refl _, q.1.up e0⟩, ?_⟩⟩
  rintro n m σ1 H1 ⟨rfl, hn, e1, L1⟩
  obtain ⟨wg, ws⟩ := wk H1 e1
  by_cases hlt : n < items.length
  · refine .inr ?_
    have hit : items[n]? = some items[n] := List.getElem?_eq_getElem hlt
    obtain ⟨g1, g2⟩ := wg n (.tuple [ea items[n], eb items[n]]) (by rw [List.getElem?_map, hit]; rfl)
    refine ⟨g1, fun σ' H2 => Ex H' H2 ∧ Lc X.w X.K H2 σ' (di (n + 1)), fun σ' H2 z => ⟨items.length - (n + 1), by omega, rfl, by omega, z⟩, fun u H2 y => ?_⟩
    obtain ⟨e2, d2⟩ := g2 u H2 y
    cases d2 with
    | tup hs hd =>
      cases hd with
      | cons h1 hd =>
        cases hd with
        | cons h2 hd =>
          cases hd
          exact ⟨_, _, rfl, hs, rfl, _, _, rfl, _, _, rfl, rfl, n, items[n], hit, ((L1.up e2).set i h1).set j h2, fun σ' H3 e3 l3 => ⟨(e1.trans e2).trans e3, l3⟩⟩
  · have ei : n = items.length := by omega
    subst ei
    rw [List.length_map] at ws
    exact .inl ⟨ws, L1, fun v H2 e2 d2 => q.2 v H2 ((e0.trans e1).trans e2) d2⟩
end
/-! ### defs that give nothing -/
theorem mk_okN {P : Program} {w : World} {K : PySem.W.Frag} {mg : Str → Option Value} {base : Heap} {Nm ps : List Str} {k : Nat} {R : List PyData → PyData → Prop} (T : Fx K mg) (i : Nat) {x : Str} {params : Arguments} {body : List Stmt} {scope : Scope}
    (hd : fn[i]? = some ⟨(x, none), x, x, params, body, scope, [], []⟩) (S : FnScope Nm ps scope) (hg : fa[i]? = some (.glo x))
    (hb : ∀ (kV doc pm : Value) (an : Option Addr) (cdv ct : Value) (us : List Value), us.length = ps.length → bindArgs (PySem.W.fnOf x x params body scope .none kV doc pm an cdv ct) ⟨us, []⟩ = Pure.pure (ps.zip us))
    (hR : ∀ dl d, R dl d → d = .none)
    (h : ∀ (cdv : Value) (A : Around) (outer : List Env) (s : Shared) (H : Hp) (E : XK), Room k (A.deeper (envOfC x scope s.heap.objs.size (He.ga K x) cdv)) → ∀ dl d, R dl d → dl.length = ps.length →
      PSs (cxOf CX0 P w K mg base Nm x scope (He.ga K x) cdv A outer s H E).nox body (tN w K (startD Nm.length dl) (startD Nm.length dl))) : OkF P w K mg base (k + 1) x ps (spD K ps.length R) := by
  obtain ⟨fd, F⟩ := T.says.def_ i hd
  refine ⟨⟨fd, F.ok S (fun vs H Q E h => ?_) fun cdv A outer s H vs Q E hr hsp => ?_, FunD.bindsN F hb⟩, T.glo i hg, F.kp⟩
  · obtain ⟨dl, d, _, hn, hd, _⟩ := h
    rw [dpa_len hd, hn]
  · obtain ⟨dl, d, hRd, hn, hd, g⟩ := hsp
    exact ⟨tN w K (startD Nm.length dl) (startD Nm.length dl), (h cdv A outer s H E hr dl d hRd hn).nox, Lc.start hd, fun σ' H' e _ => g _ _ e (by rw [hR _ _ hRd]; exact .non)⟩
end G33
set_option Elab.async false
set_option linter.all false
set_option maxRecDepth 100000
namespace G33
open PySem PySem.Spec PyProof.Rows L2
theorem bt_int : bootBuiltins "int" = some (.type "int") := by decide +kernel
theorem bt_bool : bootBuiltins "bool" = some (.type "bool") := by decide +kernel
theorem bt_str : bootBuiltins "str" = some (.type "str") := by decide +kernel
theorem bt_list : bootBuiltins "list" = some (.type "list") := by decide +kernel
theorem bt_tuple : bootBuiltins "tuple" = some (.type "tuple") := by decide +kernel
theorem ki_int_int : kitB "int" "int" = some true := by decide +kernel
theorem ki_int_bool : kitB "int" "bool" = some false := by decide +kernel
theorem ki_bool_bool : kitB "bool" "bool" = some true := by decide +kernel
theorem ki_str_str : kitB "str" "str" = some true := by decide +kernel
theorem ki_tuple_tuple : kitB "tuple" "tuple" = some true := by decide +kernel
theorem ki_list_list : kitB "list" "list" = some true := by decide +kernel
theorem ki_tuple_list : kitB "tuple" "list" = some false := by decide +kernel
theorem ki_list_tuple : kitB "list" "tuple" = some false := by decide +kernel
section
variable {X : Cx} {ds : Ds} {d : PyData} {e : Expr} {pos p : Pos}
theorem pd_is {T : Str} {t : String} {k : Bool} {pT : Pos} (hm : X.mg "isinstance" = none) (hT : X.mg T = none) (hv : bootBuiltins T = some (.type t)) (ha : PE X e (teD X.w X.K ds d)) (hk : kitB (tyn d) t = some k) (hg : Gl X "isinstance" := by rfl) (hgT : Gl X T := by rfl) (hnT : T ≠ "__name__" := by decide) (hdT : (T == ("__debug__" : Str)) = false := by decide)
    (he : starEach [e, .Name T pT] X.env = (false, eval e X.env) :: starEach [.Name T pT] X.env := by rfl) (hpl : (backTo pos (starEach [.Name T pT] X.env)).any (·.1) = false := by rfl) : PE X (.Call (.Name "isinstance" p) [e, .Name T pT] [] pos) (teD X.w X.K ds (.bool k)) := pd_isi (x := T) hm hT hv hk ha hg hgT hnT hdT he hpl
theorem pd_is2 {T U : Str} {t u : String} {k1 k2 : Bool} {pT pU pt : Pos} {kk} (hm : X.mg "isinstance" = none) (hT : X.mg T = none) (hU : X.mg U = none) (hv : bootBuiltins T = some (.type t)) (hw : bootBuiltins U = some (.type u)) (ha : PE X e (teD X.w X.K ds d)) (hk : kitB (tyn d) t = some k1) (hk2 : kitB (tyn d) u = some k2)
    (hg : Gl X "isinstance" := by rfl) (hgT : Gl X T := by rfl) (hgU : Gl X U := by rfl) (hnT : T ≠ "__name__" := by decide) (hdT : (T == ("__debug__" : Str)) = false := by decide) (hnU : U ≠ "__name__" := by decide) (hdU : (U == ("__debug__" : Str)) = false := by decide)
    (he : starEach [e, .Tuple [.Name T pT, .Name U pU] kk pt] X.env = (false, eval e X.env) :: starEach [.Tuple [.Name T pT, .Name U pU] kk pt] X.env := by rfl) (hpl : (backTo pos (starEach [.Tuple [.Name T pT, .Name U pU] kk pt] X.env)).any (·.1) = false := by rfl) : PE X (.Call (.Name "isinstance" p) [e, .Tuple [.Name T pT, .Name U pU] kk pt] [] pos) (teD X.w X.K ds (.bool (k1 || k2))) :=
  pd_isi2 hm hT hU hv hw hk hk2 ha hg hgT hgU hnT hdT hnU hdU he hpl
end
end G33
set_option Elab.async false
set_option linter.all false
set_option maxRecDepth 100000
set_option maxHeartbeats 1000000
namespace G33
open PySem PySem.Spec PyProof.Rows L2
def teH (w : World) (K : PySem.W.Frag) (ds : Ds) (d : PyData) : TE := fun σ H Q => Lc w K H σ ds ∧ ∀ v H', Ex H H' → HoldsD w K H' v d → Q v H'
abbrev Out := Hp → V → Hp → Prop
/-- what stands before, then any end -/
def teO (w : World) (K : PySem.W.Frag) (ds : Ds) (O : Out) : TE := fun σ H Q => Lc w K H σ ds ∧ ∀ H1 v H', Ex H H1 → O H1 v H' → Q v H'
/-- a new dict -/
def oT (w : World) (K : PySem.W.Frag) (kvs : List (Pr × PyData)) : Out := fun H v H' => Ex H H' ∧ ∃ a, v = .ref a ∧ H a = none ∧ Tab w K H' a kvs
theorem room8 {A : Around} (h : A.units + 64 < cLine) : A.in1.units + 8 < cLine := by
  show A.units + 1 + 8 < cLine
  omega
theorem room8' {A : Around} (h : A.units + 64 < cLine) : A.units + 8 < cLine := by omega
def inK (kvs : List (Pr × PyData)) (p : Pr) : Bool := (kvs.lookup p).isSome
def rInTab (w : World) (K : PySem.W.Frag) (neg : Bool) : R2 := fun x y H Q => ∃ p a kvs, Dp K H x p.enc ∧ y = .ref a ∧ Tab w K H a kvs ∧ Q (.bl (if neg then !inK kvs p else inK kvs p)) H
section
variable {X : Cx}
theorem dp_ref {K : PySem.W.Frag} {H : Hp} {v : V} {xs : List PyData} (h : Dp K H v (.tuple xs)) : ∃ a, v = .ref a := by
  cases h with
  | tup hs hd => exact ⟨_, rfl⟩
theorem at_some {K : PySem.W.Frag} {H : Hp} {kvs : List (Pr × PyData)} {ys : List (NestedKey × Addr × Value)} (r : Paired (EntR K H) kvs ys) (p : Pr) : (atKey ys (nk p)).isSome = inK kvs p := by
  unfold inK
  rcases at_of p r with ⟨e1, e2⟩ | ⟨e, y, e1, e2, _⟩
  · rw [e1, e2]
    rfl
  · rw [e1, e2]
    rfl
theorem op_inTab (hu : X.A.units + 64 < cLine) : OpR X (compareOp .In) (rInTab X.w X.K false) := by
  intro pins s σ H x y v u Q I rx ry h
  obtain ⟨p, a, kvs, dx, rfl, T, q⟩ := h
  obtain ⟨b, rfl⟩ := dp_ref dx
  cases rx
  cases ry
  obtain ⟨ys, D, r⟩ := tab_of I T
  refine wpAny_in_heap (room8 hu) (key_is I dx) T.sys D ?_
  rw [at_some r]
  exact ⟨.bl _, H, I.tok _, rfl, q⟩
theorem op_notInTab (hu : X.A.units + 64 < cLine) : OpR X (compareOp .NotIn) (rInTab X.w X.K true) := by
  intro pins s σ H x y v u Q I rx ry h
  obtain ⟨p, a, kvs, dx, rfl, T, q⟩ := h
  obtain ⟨b, rfl⟩ := dp_ref dx
  cases rx
  cases ry
  obtain ⟨ys, D, r⟩ := tab_of I T
  refine wpAny_notIn_heap (room8 hu) (key_is I dx) T.sys D ?_
  rw [at_some r]
  exact ⟨.bl _, H, I.tok _, rfl, q⟩
/-- len(d) -/
theorem cr_lenTab : CallR X (.builtin "len") (fun vs H Q => ∃ a kvs, vs = [.ref a] ∧ Tab X.w X.K H a kvs ∧ Q (.int kvs.length) H) := by
  intro pins s σ H vs us Q I r h
  obtain ⟨a, kvs, rfl, T, q⟩ := h
  obtain ⟨ys, D, rr⟩ := tab_of I T
  rw [Vals.ref1 r]
  have hl : kvs.length = ys.length := Paired.length rr
  have h1 := T.len
  refine call_len_dictH T.sys D ?_ ?_
  · rw [← hl]; omega
  · rw [← hl]
    exact ⟨.int _, H, I.tok _, ⟨_, rfl⟩, q⟩
end
/-- a display whose keys are tuples, told by its entries -/
theorem dict_pairs0 {prog : Program} {w : World} {κ : Type} [DecidableEq κ] {knd : HeapKind prog w κ} {A : Around} {E : Value → Shared → Prop} {s : Shared} {env : Env} {keys : List (Option Expr)} {values : List Expr} {pos : Pos} {pairs : List (Sem Value × Sem Value)} {Q : Value → Shared → Prop} (hu : knd.room A)
    (hz : (evalEachOpt keys env).zip ((evalEach values env).map fun v => do let x ← v; standAt pos; Pure.pure x) = pairs.map fun p => (some p.1, p.2)) (hne : pairs ≠ []) (h15 : pairs.length ≤ 15)
    (h : wpAny (model prog w) A (evalPairs pairs) (fun vs s₁ => ∃ ps, CarriesH knd s₁.heap vs ps ∧ s₁.heap.DictOfH knd s.heap.objs.size [] ∧ ∀ h' tk, h'.DictOfH knd s.heap.objs.size (storedAllH [] ps) → Heap.SameBut s.heap.objs.size s₁.heap h' → Q (.ref s.heap.objs.size) { s₁ with heap := h', toks := tk }) E { s with heap := s.heap.push { cls := .type "dict", data := .dict #[] } }) :
    wpAny (model prog w) A (eval (.Dict keys values pos) env) Q E s := by
  rw [arm_eval_Dict, hz, dictDisplay_pairs pairs hne (by omega)]
  refine wpAny_bind (wpAny_standAt (wpAny_bind (wpAny_subDictH (knd := knd) (Q := fun d s' => wpAny (model prog w) A (Pure.pure (Value.ref d)) Q E s') hu h15 (wpAny_mono h (fun vs s₁ h₁ => ?_) fun _ _ e => e))))
  obtain ⟨ps, hc, hm, hq⟩ := h₁
  exact ⟨ps, hc, hm, fun h' tk a b => wpAny_pure (hq h' tk a b)⟩
section
variable {X : Cx} {ds : Ds} {d d1 : PyData} {p : Pr} {kvs : List (Pr × PyData)} {a b e o i : Expr} {es : List Expr} {pos pp apos cpos tpos : Pos} {tg : Expr}
theorem ph_d (h : PE X e (teD X.w X.K ds d)) : PE X e (teH X.w X.K ds d) := pe_imp h fun σ H Q q => ⟨q.1, fun v H' x dv => q.2 v H' x (.inl dv)⟩
theorem pd_h (h : PE X e (teH X.w X.K ds d)) (n : nd d = true) : PE X e (teD X.w X.K ds d) := pe_imp h fun σ H Q q => ⟨q.1, fun v H' x dv => q.2 v H' x (dv.dp n)⟩
theorem ph_eq (h : PE X e (teH X.w X.K ds d1)) (q : d1 = d) : PE X e (teH X.w X.K ds d) := q ▸ h
theorem ph_name (i : Nat) {x : Str} (h : known ds i = true := by rfl) (hN : X.N[i]? = some x := by rfl) (hv : Vis X.env.scope x := by first | exact Or.inl rfl | exact Or.inr (Or.inl rfl) | exact Or.inr (Or.inr rfl))
    (hd : (x == ("__debug__" : Str)) = false := by decide) (hcd : (x == ("__classdict__" : Str)) = false := by decide) : PE X (.Name x pos) (teH X.w X.K ds (look ds i)) :=
  pe_imp (pe_var hN hv hd hcd) fun σ H Q ⟨L, q⟩ => let ⟨v, e, dv⟩ := L.2 i _ (look_of h); ⟨v, e, q v H (Evl.Ex.refl H) dv⟩
/-! in, not in -/
theorem inTab_im {neg : Bool} {σ : L2.St} {H : Hp} {Q : VK} (q : teD X.w X.K ds (.bool (if neg then !inK kvs p else inK kvs p)) σ H Q) : teD X.w X.K ds p.enc σ H fun x H1 => teH X.w X.K ds (dictD kvs) σ H1 fun y H2 => rInTab X.w X.K neg x y H2 Q :=
  ⟨q.1, fun v H1 e1 h1 => ⟨q.1.up e1, fun w H2 e2 h2 => by
    obtain ⟨c, rfl, T⟩ := h2.tab
    exact ⟨p, c, kvs, h1.up e2, rfl, T, q.2 _ H2 (e1.trans e2) (.bl _)⟩⟩⟩
theorem pd_inTab (hu : X.A.units + 64 < cLine) (ha : PE X a (teD X.w X.K ds p.enc)) (hb : PE X b (teH X.w X.K ds (dictD kvs))) (hm : behindInMarks .In b = false := by rfl) : PE X (.Compare a [.In] [b] pos) (teD X.w X.K ds (.bool (inK kvs p))) :=
  pe_imp (pe_cmpR (op_inTab hu) ha hb hm) fun _ _ _ q => inTab_im (neg := false) q
theorem pt_inTab (hu : X.A.units + 64 < cLine) (ha : PE X a (teD X.w X.K ds p.enc)) (hb : PE X b (teH X.w X.K ds (dictD kvs))) (hm : behindInMarks .In b = false := by rfl) : PT X (.Compare a [.In] [b] pos) (ttD X.w X.K ds (inK kvs p)) :=
  pt_imp (pt_cmpR (op_inTab hu) ha hb hm) fun σ H Q q => inTab_im (neg := false) ⟨q.1, fun v H' e h => by cases h; exact ⟨_, rfl, q.2 H' e⟩⟩
theorem pt_notInTab (hu : X.A.units + 64 < cLine) (ha : PE X a (teD X.w X.K ds p.enc)) (hb : PE X b (teH X.w X.K ds (dictD kvs))) (hm : behindInMarks .NotIn b = false := by rfl) : PT X (.Compare a [.NotIn] [b] pos) (ttD X.w X.K ds (!inK kvs p)) :=
  pt_imp (pt_cmpR (op_notInTab hu) ha hb hm) fun σ H Q q => inTab_im (neg := true) ⟨q.1, fun v H' e h => by cases h; exact ⟨_, rfl, q.2 H' e⟩⟩
/-! d[k] -/
theorem pd_getTab (hu : X.A.units + 64 < cLine) (ho : PE X o (teH X.w X.K ds (dictD kvs))) (hi : PE X i (teD X.w X.K ds p.enc)) (hk : kvs.lookup p = some d) (hs : NoSl i := by exact fun _ _ => rfl) : PE X (.Subscript o i pos) (teD X.w X.K ds d) := by
  refine ⟨fun pins s σ H Q I h => ?_⟩
  refine subD_of PySem.F.slot_dict_getitem.lookup hs (thn (ho.run pins s σ H _ I ⟨h.1, fun v H1 e1 h1 => (?_ : teD X.w X.K ds p.enc σ H1 fun y H2 => ∃ c, v = .ref c ∧ Tab X.w X.K H2 c kvs ∧ Dp X.K H2 y p.enc ∧ Ex H H2)⟩) fun u s1 ⟨x, H1, I1, rx, q1⟩ => thn (hi.run pins s1 σ H1 _ I1 q1) fun iv s2 ⟨y, H2, I2, ry, c, ex, T, dy, eH⟩ => ?_)
  · obtain ⟨c, rfl, T⟩ := h1.tab
    exact ⟨h.1.up e1, fun y H2 e2 h2 => ⟨c, rfl, T.up e2, h2, e1.trans e2⟩⟩
  · subst ex
    obtain rfl : u = Value.ref c := rx
    obtain ⟨b, rfl⟩ := dp_ref dy
    obtain rfl : iv = Value.ref b := ry
    obtain ⟨ys, D, r⟩ := tab_of I2 T
    refine ⟨D.typeIs, ?_⟩
    rcases at_of p r with ⟨e1, e2⟩ | ⟨e, y, e1, e2, v, rv, dv⟩
    · rw [e1] at hk
      cases hk
    · rw [e1] at hk
      cases hk
      exact wpAny_getItem_heap (room8 hu) (key_is I2 dy) D e2 ⟨v, H2, I2.tok _, rv, h.2 v H2 eH dv⟩
/-! len(d) -/
theorem pd_lenTab (hm : X.mg "len" = none) (ha : PE X e (teH X.w X.K ds (dictD kvs))) (hg : Gl X "len" := by rfl) (he : starEach [e] X.env = (false, eval e X.env) :: starEach [] X.env := by rfl) : PE X (.Call (.Name "len" pp) [e] [] pos) (teD X.w X.K ds (.int kvs.length)) :=
  pe_imp (pe_callB cr_lenTab hg hm (by decide +kernel) (pa_cons ha pa_nil he) (by decide) (by decide) he (by rfl)) fun σ H Q q => ⟨q.1, fun v H1 e1 h1 => by
    obtain ⟨c, rfl, T⟩ := h1.tab
    exact ⟨c, kvs, rfl, T, q.2 _ H1 e1 (.int _)⟩⟩
/-! {k: v} -/
theorem po_disp1 {k v : Expr} (hu : X.A.units + 64 < cLine) (hk : PE X k (teD X.w X.K ds p.enc)) (hv : PE X v (teD X.w X.K ds d)) (hp : pure d = true) : PE X (.Dict [some k] [v] pos) (teO X.w X.K ds (oT X.w X.K [(p, d)])) := by
  refine ⟨fun pins s σ H Q I h => ?_⟩
  have hn := I.hok.fresh (Nat.le_refl s.heap.objs.size)
  have hsys : (s.heap.objs.size == sysModules) = false := beq_eq_false_iff_ne.mpr (Ne.symm (Nat.ne_of_lt I.big))
  have D0 : (s.heap.push { cls := .type "dict", data := .dict #[] }).DictOfH (nestedKind X.prog X.w) s.heap.objs.size [] := Heap.DictOfH.new s.heap
  obtain ⟨o0, ok0, T0⟩ := tab_new (kvs := []) (K := X.K) (w := X.w) (H' := H) (Nat.zero_le _) (by simp) hsys D0 (fun _ => .nil)
  have I1 := I.laid (a := s.heap.objs.size) (o := .ext fun h => h.get? s.heap.objs.size = some o0) (h' := s.heap.push { cls := .type "dict", data := .dict #[] }) (t' := s.toks) (fun _ _ q => Heap.get?_push_of_some _ q) (Nat.le_refl _) ok0
  have e0 : Ex H (upd H s.heap.objs.size (.ext fun h => h.get? s.heap.objs.size = some o0)) := Evl.Ex.new hn
  refine dict_pairs0 (knd := nestedKind X.prog X.w) (pairs := pairTrees [some k] [v] X.env pos) (room8' hu) (zip_pairTrees [some k] [v] X.env pos rfl rfl) (by simp [pairTrees]) (by show 1 ≤ 15; decide)
    (pairTrees_cons_walk (thn (hk.run pins _ σ _ (fun y H2 => Ex (upd H s.heap.objs.size (.ext fun h => h.get? s.heap.objs.size = some o0)) H2 ∧ Dp X.K H2 y p.enc) I1 ⟨h.1.up e0, fun v H' x dv => ⟨x, dv⟩⟩) fun kv s1 ⟨y, H2, I2, ry, x2, dy⟩ =>
      thn (hv.run pins s1 σ H2 (fun z H3 => Ex H2 H3 ∧ Dp X.K H3 z d) I2 ⟨(h.1.up e0).up x2, fun v H' x dv => ⟨x, dv⟩⟩) fun vv s2 ⟨z, H3, I3, rz, x3, dz⟩ => pairTrees_nil_walk ?_))
  have T3 := (T0.up x2).up x3
  obtain ⟨b, rfl⟩ := dp_ref dy
  obtain rfl : kv = Value.ref b := ry
  have dy3 := dy.up x3
  obtain ⟨ys, D, r⟩ := tab_of I3 T3
  cases r
  refine ⟨[(nk p, b, vv)], ⟨rfl, rfl, key_is I3 dy3, trivial⟩, D, fun h' tk D' hs => ?_⟩
  have e3 : H3 s.heap.objs.size = some (.ext fun h => h.get? s.heap.objs.size = some o0) := x3 _ _ (x2 _ _ upd_same)
  have ne : ∀ o, Ex H (upd H3 s.heap.objs.size (.ext fun h => h.get? s.heap.objs.size = some o)) := fun o => Evl.Ex.mut ((e0.trans x2).trans x3) hn
  have xT : ∀ o, ExT H3 (upd H3 s.heap.objs.size (.ext fun h => h.get? s.heap.objs.size = some o)) := fun o => ExT.put e3 (fun _ e => nomatch e) (fun _ _ e => nomatch e)
  have D2 : h'.DictOfH (nestedKind X.prog X.w) s.heap.objs.size [(nk p, b, vv)] := D'
  obtain ⟨o, ok, T'⟩ := tab_new (kvs := [(p, d)]) (K := X.K) (w := X.w) (H' := H3) (by show 1 ≤ 100000; decide) (by simp) hsys D2 fun o => .cons ⟨rfl, dy3.upT (pure_pr p) (xT o), z, rz, dz.upT hp (xT o)⟩ .nil
  have I' := d_write (t' := tk) (ob := .ext fun h => h.get? s.heap.objs.size = some o) I3 (by rw [e3]; exact True.intro) hs (let ⟨q, _, _, hq, _⟩ := D2; ⟨q, hq⟩) ok
  exact ⟨.ref s.heap.objs.size, _, I', rfl, h.2 H _ _ (Evl.Ex.refl H) ⟨ne o, _, rfl, hn, T'⟩⟩
theorem ph_oT (h : PE X e (teO X.w X.K ds (oT X.w X.K kvs))) : PE X e (teH X.w X.K ds (dictD kvs)) := pe_imp h fun σ H Q q => ⟨q.1, fun H1 v H' e1 o => by
  obtain ⟨e2, a, rfl, _, T⟩ := o
  exact q.2 _ H' (e1.trans e2) (.inr ⟨kvs, a, rfl, rfl, T⟩)⟩
end
end G33
set_option Elab.async false
set_option linter.all false
set_option maxRecDepth 100000
set_option maxHeartbeats 1000000
namespace G33
open PySem PySem.Spec PyProof.Rows L2
/-! ### changes in place -/
/-- only what stands at a is changed, and there stood a dict -/
structure AtExt (a : Addr) (H H' : Hp) : Prop where
  was : ∃ φ, H a = some (.ext φ)
  but : ∀ b, b ≠ a → H' b = H b
/-- .. and there stood a list -/
structure AtLst (a : Addr) (H H' : Hp) : Prop where
  was : ∃ xs, H a = some (.lst xs)
  but : ∀ b, b ≠ a → H' b = H b
theorem AtExt.rd {a b : Addr} {H H' : Hp} (x : AtExt a H H') {u : HO} (h : Rd H b u) (h1 : ∀ φ, u ≠ .ext φ) : Rd H' b u := by
  obtain ⟨φ, hφ⟩ := x.was
  have ne : b ≠ a := by
    rintro rfl
    rcases h with h | ⟨o, h⟩
    · rw [hφ] at h; exact h1 φ (Option.some.inj h).symm
    · rw [hφ] at h; cases h
  rcases h with h | ⟨o, h⟩
  · exact .inl ((x.but b ne).trans h)
  · exact .inr ⟨o, (x.but b ne).trans h⟩
theorem AtExt.exT {a : Addr} {H H' : Hp} (x : AtExt a H H') : ExT H H' := fun b xs h => x.rd h (fun _ e => nomatch e)
theorem AtLst.exT {a : Addr} {H H' : Hp} (x : AtLst a H H') : ExT H H' := fun b xs h => by
  obtain ⟨ys, hy⟩ := x.was
  have ne : b ≠ a := by
    rintro rfl
    rcases h with h | ⟨o, h⟩
    · rw [hy] at h; cases h
    · rw [hy] at h; cases h
  rcases h with h | ⟨o, h⟩
  · exact .inl ((x.but b ne).trans h)
  · exact .inr ⟨o, (x.but b ne).trans h⟩
mutual
/-- data outlives a change of a dict -/
theorem dp_ext {K : PySem.W.Frag} {a : Addr} {H H' : Hp} (e : AtExt a H H') : ∀ (d : PyData) {v : V}, Dp K H v d → Dp K H' v d
  | .none, _, h => by cases h; exact .non
  | .bool _, _, h => by cases h; exact .bl _
  | .int _, _, h => by cases h; exact .int _
  | .str _, _, h => by cases h; exact .str _
  | .list ds, _, h => by
    cases h with
    | lst hs ha =>
      refine .lst ?_ (dpa_ext e ds ha)
      rcases hs with hs | hs
      · exact .inl (e.rd hs fun _ z => nomatch z)
      · exact .inr hs
  | .tuple ds, _, h => by
    cases h with
    | tup hs ha =>
      refine .tup ?_ (dpa_ext e ds ha)
      rcases hs with hs | hs
      · exact .inl (e.rd hs fun _ z => nomatch z)
      · exact .inr hs
  | .dict _, _, h => by cases h
theorem dpa_ext {K : PySem.W.Frag} {a : Addr} {H H' : Hp} (e : AtExt a H H') : ∀ (ds : List PyData) {vs : List V}, DpAll K H vs ds → DpAll K H' vs ds
  | [], _, h => by cases h; exact .nil
  | d :: ds, _, h => by
    cases h with
    | cons h1 h2 => exact .cons (dp_ext e d h1) (dpa_ext e ds h2)
end
/-- a list of pure data, elsewhere -/
theorem lst_other {K : PySem.W.Frag} {q l : Addr} {H H' : Hp} (x : AtLst q H H') (ne : l ≠ q) {ds : List PyData} (p : pureAll ds = true) (h : Dp K H (.ref l) (.list ds)) : Dp K H' (.ref l) (.list ds) := by
  cases h with
  | lst hs ha =>
    refine .lst ?_ (dpa_upT x.exT ds p ha)
    rcases hs with hs | hs
    · refine .inl ?_
      rcases hs with hs | ⟨o, hs⟩
      · exact .inl ((x.but l ne).trans hs)
      · exact .inr ⟨o, (x.but l ne).trans hs⟩
    · exact .inr hs
theorem pureAll_map {α : Type} {f : α → PyData} : ∀ {l : List α}, (∀ a ∈ l, pure (f a) = true) → pureAll (l.map f) = true
  | [], _ => by simp [pureAll]
  | a :: l, h => by simp [pureAll, h a (by simp), pureAll_map (l := l) fun b hb => h b (by simp [hb])]
/-- a list in a slot, to be changed -/
structure LiA (K : PySem.W.Frag) (H : Hp) (σ : L2.St) (t : Nat) (q : Addr) (vs : List V) (xs : List PyData) : Prop where
  slot : σ[t]? = some (some (.ref q))
  here : H q = some (.lst vs)
  data : DpAll K H vs xs
theorem LiA.up {K : PySem.W.Frag} {H H' : Hp} {σ : L2.St} {t : Nat} {q : Addr} {vs : List V} {xs : List PyData} (L : LiA K H σ t q vs xs) (e : Ex H H') : LiA K H' σ t q vs xs := ⟨L.slot, e _ _ L.here, L.data.up e⟩
theorem LiA.dp {K : PySem.W.Frag} {H : Hp} {σ : L2.St} {t : Nat} {q : Addr} {vs : List V} {xs : List PyData} (L : LiA K H σ t q vs xs) : Dp K H (.ref q) (.list xs) := .lst (.inl (.inl L.here)) L.data
section
variable {X : Cx} {ds : Ds} {d d1 : PyData} {p : Pr} {kvs : List (Pr × PyData)} {a b e o i : Expr} {es : List Expr} {pos pos' pp apos cpos tpos : Pos} {tg : Expr}
def tPut (w : World) (K : PySem.W.Frag) (i : Nat) (ds : Ds) (kvs : List (Pr × PyData)) (p : Pr) (d : PyData) : TS := fun D σ H => Lc w K H σ ds ∧
  ∀ a H1 H2, Ex H H1 → σ[i]? = some (some (.ref a)) → Tab w K H1 a kvs → AtExt a H1 H2 → Tab w K H2 a (kvs ++ [(p, d)]) → D.nx σ H2
/-- found[k] = v, k new -/
theorem ps_put (n : Nat) {f : Str} (hu : X.A.units + 64 < cLine) (hi : PE X i (teD X.w X.K ds p.enc)) (hv : PE X e (teD X.w X.K ds d)) (hf : look ds n = dictD kvs) (hnew : inK kvs p = false) (hp : pure d = true) (hpk : pureKV kvs) (hl : kvs.length < 100000)
    (hkn : known ds n = true := by rfl) (hN : X.N[n]? = some f := by rfl) (hvis : Vis X.env.scope f := by first | exact Or.inl rfl | exact Or.inr (Or.inl rfl) | exact Or.inr (Or.inr rfl))
    (hd : (f == ("__debug__" : Str)) = false := by decide) (hcd : (f == ("__classdict__" : Str)) = false := by decide) (hs : swapsWith e (some (.Subscript (.Name f pp) i pos')) pos.line X.env = Pure.pure false := by rfl) :
    PS X (.Assign [.Subscript (.Name f pp) i pos'] e pos) (tPut X.w X.K n ds kvs p d) := by
  refine ⟨fun pins s σ H D I h => ?_⟩
  have ho := pe_var (X := X) (pos := pp) hN hvis hd hcd
  obtain ⟨v0, e0, dv0⟩ := h.1.2 n _ (look_of hkn)
  rw [hf] at dv0
  obtain ⟨c, rfl, T⟩ := dv0.tab
  refine wpAny_Assign_Subscript (thn (hv.run pins s σ H (fun v H1 => Ex H H1 ∧ Dp X.K H1 v d) I ⟨h.1, fun v H1 x dv => ⟨x, dv⟩⟩) fun r s1 ⟨v, H1, I1, rv, x1, dv⟩ =>
    thn (ho.run pins s1 σ H1 (fun u H2 => H2 = H1 ∧ u = .ref c) I1 ⟨_, e0, rfl, rfl⟩) fun u s2 ⟨x, H2, I2, rx, eH, ex⟩ =>
    thn (hi.run pins s2 σ H2 (fun y H3 => Ex H2 H3 ∧ Dp X.K H3 y p.enc) I2 ⟨by rw [eH]; exact h.1.up x1, fun y H3 x dy => ⟨x, dy⟩⟩) fun iv s3 ⟨y, H3, I3, ry, x3, dy⟩ => ?_) hs
  subst ex eH
  obtain rfl : u = Value.ref c := rx
  obtain ⟨b, rfl⟩ := dp_ref dy
  obtain rfl : iv = Value.ref b := ry
  have T3 := (T.up x1).up x3
  obtain ⟨ys, D3, r3⟩ := tab_of I3 T3
  have hz : ys.length ≤ sizeLine := by
    have h1 := T3.len
    have h2 : kvs.length = ys.length := Paired.length r3
    rw [sizeLine_eq]; omega
  have hat : atKey ys (nk p) = none := by
    have := at_some r3 p
    rw [hnew] at this
    exact Option.not_isSome_iff_eq_none.mp (by rw [this]; exact Bool.false_ne_true)
  obtain ⟨o1, es1, ep1, xs1, g1, g2, g3⟩ := T3.ex
  refine wpAny_setItem_heap (hsz := hz) (room8 hu) (key_is I3 dy) D3 fun h' D' hs' => ?_
  rw [storedH_new hat] at D'
  have xT : ∀ o, ExT H3 (upd H3 c (.ext fun h => h.get? c = some o)) := fun o => ExT.put g1 (fun _ e => nomatch e) (fun _ _ e => nomatch e)
  have dv3 := dv.up x3
  obtain ⟨o2, ok, T'⟩ := tab_new (kvs := kvs ++ [(p, d)]) (K := X.K) (w := X.w) (H' := H3) (by rw [List.length_append]; exact hl) (by
      rw [List.map_append, List.nodup_append]
      refine ⟨T3.nd, by simp, fun x hx y hy e => ?_⟩
      simp only [List.map_cons, List.map_nil, List.mem_singleton] at hy
      subst hy e
      obtain ⟨q, hq, rfl⟩ := List.mem_map.mp hx
      have : inK kvs q.1 = true := by
        unfold inK
        rw [List.lookup_isSome_iff]
        exact ⟨q, hq, by simp⟩
      rw [this] at hnew
      cases hnew) T3.sys D' fun o => Paired.snoc (paired_mem r3 fun a ha b ⟨q1, q2, v', q3, q4⟩ => ⟨q1, q2.upT (pure_pr _) (xT o), v', q3, q4.upT (hpk a ha) (xT o)⟩) ⟨rfl, dy.upT (pure_pr _) (xT o), v, rv, dv3.upT hp (xT o)⟩
  have I' := d_write (t' := s3.toks + (nestedKind X.prog X.w).draws (nk p)) (ob := .ext fun h => h.get? c = some o2) I3 (by rw [g1]; exact True.intro) hs' (let ⟨q, _, _, hq, _⟩ := D'; ⟨q, hq⟩) ok
  exact ⟨σ, _, I', h.2 c H3 _ (x1.trans x3) e0 T3 ⟨⟨_, g1⟩, fun b hb => upd_ne hb⟩ T'⟩
/-- x.append(e) -/
def tApp (w : World) (K : PySem.W.Frag) (t : Nat) (ds : Ds) (d : PyData) : TS := fun D σ H => Lc w K H σ ds ∧ ∃ q vs, σ[t]? = some (some (.ref q)) ∧ H q = some (.lst vs) ∧ vs.length < 100000 ∧ ∀ v H1, Ex H H1 → Dp K H1 v d → D.nx σ (upd H1 q (.lst (vs ++ [v])))
theorem ps_append (t : Nat) {f : Str} (he : PE X e (teD X.w X.K ds d)) (hN : X.N[t]? = some f := by rfl) (hvis : Vis X.env.scope f := by first | exact Or.inl rfl | exact Or.inr (Or.inl rfl) | exact Or.inr (Or.inr rfl))
    (hd : (f == ("__debug__" : Str)) = false := by decide) (hcd : (f == ("__classdict__" : Str)) = false := by decide)
    (hbase : attributeBase (.Name f pp) "append" X.env (eval (.Name f pp) X.env) = eval (.Name f pp) X.env := by rfl)
    (hfew : ((backTo cpos (starEach [e] X.env)).all (fun x => !x.1) && (backToKw cpos (keywordEach [] X.env)).all (fun x => x.1.isSome) && decide (([e] : List Expr).length + ([] : List Keyword).length + (if ([] : List Keyword).isEmpty then 0 else 1) < 30)) = true := by rfl)
    (hline : (apos.endLine == cpos.line) = true := by rfl) (hs : starEach [e] X.env = (false, eval e X.env) :: starEach [] X.env := by rfl) (hpl : (backTo cpos (starEach ([] : List Expr) X.env)).any (·.1) = false := by rfl)
    (hsw : swapsWith (.Call (.Attribute (.Name f pp) "append" apos) [e] [] cpos) none pos.line X.env = Pure.pure false := by rfl) : PS X (.Expr (.Call (.Attribute (.Name f pp) "append" apos) [e] [] cpos) pos) (tApp X.w X.K t ds d) :=
  ps_imp (ps_expr (pe_bm PySem.F.plainAttrs_list PySem.F.slot_list_append PySem.F.type_list_append mt_append (pe_var hN hvis hd hcd) (ad_cons he ad_nil hs) hbase hfew hline hs hpl) hsw) fun D σ H q => by
    obtain ⟨L, a, vs, e1, e2, hl, k⟩ := q
    refine ⟨_, e1, .inl ⟨rfl, vs, .inl (.inl e2)⟩, L, fun ws H1 x1 dw => ?_⟩
    obtain ⟨v, rfl, dv⟩ := dpa1 dw
    exact ⟨a, vs, v, rfl, rfl, x1 _ _ e2, Evl.sz_lt hl, k v H1 x1 dv⟩
end
/-! ### the Hoare forms -/
section
variable {X : Cx} {ds : Ds} {d d1 : PyData} {p : Pr} {kvs : List (Pr × PyData)} {a b e o i : Expr} {es : List Expr} {pos pos' pp apos cpos tpos : Pos} {tg : Expr} {P N : L2.St → Hp → Prop} {R : V → Hp → Prop}
theorem hp_put (n : Nat) {f : Str} (hu : X.A.units + 64 < cLine) (hi : PE X i (teD X.w X.K ds p.enc)) (hv : PE X e (teD X.w X.K ds d)) (hf : look ds n = dictD kvs) (hnew : inK kvs p = false) (hp : pure d = true) (hpk : pureKV kvs) (hl : kvs.length < 100000)
    (hL : ∀ σ H, P σ H → Lc X.w X.K H σ ds) (hn : ∀ σ H a H1 H2, P σ H → Ex H H1 → σ[n]? = some (some (.ref a)) → Tab X.w X.K H1 a kvs → AtExt a H1 H2 → Tab X.w X.K H2 a (kvs ++ [(p, d)]) → N σ H2)
    (hkn : known ds n = true := by rfl) (hN : X.N[n]? = some f := by rfl) (hvis : Vis X.env.scope f := by first | exact Or.inl rfl | exact Or.inr (Or.inl rfl) | exact Or.inr (Or.inr rfl))
    (hd : (f == ("__debug__" : Str)) = false := by decide) (hcd : (f == ("__classdict__" : Str)) = false := by decide) (hs : swapsWith e (some (.Subscript (.Name f pp) i pos')) pos.line X.env = Pure.pure false := by rfl) :
    PS X (.Assign [.Subscript (.Name f pp) i pos'] e pos) (tH P N R) :=
  ps_imp (ps_put n hu hi hv hf hnew hp hpk hl hkn hN hvis hd hcd hs) fun D σ H q => ⟨hL σ H q.1, fun a H1 H2 x e0 T ae T' => q.2.1 _ _ (hn σ H a H1 H2 q.1 x e0 T ae T')⟩
theorem hp_append (t : Nat) {f : Str} (he : PE X e (teD X.w X.K ds d)) (hL : ∀ σ H, P σ H → Lc X.w X.K H σ ds) (hn : ∀ σ H, P σ H → ∃ q vs, σ[t]? = some (some (.ref q)) ∧ H q = some (.lst vs) ∧ vs.length < 100000 ∧ ∀ v H1, Ex H H1 → Dp X.K H1 v d → N σ (upd H1 q (.lst (vs ++ [v]))))
    (hN : X.N[t]? = some f := by rfl) (hvis : Vis X.env.scope f := by first | exact Or.inl rfl | exact Or.inr (Or.inl rfl) | exact Or.inr (Or.inr rfl))
    (hd : (f == ("__debug__" : Str)) = false := by decide) (hcd : (f == ("__classdict__" : Str)) = false := by decide)
    (hbase : attributeBase (.Name f pp) "append" X.env (eval (.Name f pp) X.env) = eval (.Name f pp) X.env := by rfl)
    (hfew : ((backTo cpos (starEach [e] X.env)).all (fun x => !x.1) && (backToKw cpos (keywordEach [] X.env)).all (fun x => x.1.isSome) && decide (([e] : List Expr).length + ([] : List Keyword).length + (if ([] : List Keyword).isEmpty then 0 else 1) < 30)) = true := by rfl)
    (hline : (apos.endLine == cpos.line) = true := by rfl) (hs : starEach [e] X.env = (false, eval e X.env) :: starEach [] X.env := by rfl) (hpl : (backTo cpos (starEach ([] : List Expr) X.env)).any (·.1) = false := by rfl)
    (hsw : swapsWith (.Call (.Attribute (.Name f pp) "append" apos) [e] [] cpos) none pos.line X.env = Pure.pure false := by rfl) : PS X (.Expr (.Call (.Attribute (.Name f pp) "append" apos) [e] [] cpos) pos) (tH P N R) :=
  ps_imp (ps_append t he hN hvis hd hcd hbase hfew hline hs hpl hsw) fun D σ H q => ⟨hL σ H q.1, let ⟨a, vs, e1, e2, e3, k⟩ := hn σ H q.1; ⟨a, vs, e1, e2, e3, fun v H1 x dv => q.2.1 _ _ (k v H1 x dv)⟩⟩
end
section
variable {w : World} {K : PySem.W.Frag} {H H' : Hp} {σ : L2.St} {ds : Ds} {kvs kvs' : List (Pr × PyData)} {a q : Addr} {n : Nat}
def ndO : Option PyData → Bool
  | some d => nd d
  | none => true
theorem Lc.put (L : Lc w K H σ ds) (x : AtExt a H H') (hs : σ[n]? = some (some (.ref a))) (T : Tab w K H' a kvs') (ho : (ds.set n none).all ndO = true) : Lc w K H' σ (ds.set n (some (dictD kvs'))) := by
  refine ⟨by rw [List.length_set, L.1], fun j d hj => ?_⟩
  by_cases hn : n = j
  · subst hn
    by_cases hl : n < ds.length
    · rw [List.getElem?_set_self hl] at hj
      cases hj
      exact ⟨_, hs, .inr ⟨kvs', a, rfl, rfl, T⟩⟩
    · rw [List.getElem?_eq_none (by simpa using hl)] at hj
      cases hj
  · have hj' : (ds.set n none)[j]? = some (some d) := by rw [List.getElem?_set_ne hn] at hj ⊢; exact hj
    rw [List.getElem?_set_ne hn] at hj
    obtain ⟨v, e, hv⟩ := L.2 j d hj
    have : nd d = true := List.all_eq_true.mp ho _ (List.mem_of_getElem? hj')
    exact ⟨v, e, .inl (dp_ext x d (hv.dp this))⟩
inductive PuD : Ds → Prop where
  | nil : PuD []
  | n {ds : Ds} (h : PuD ds) : PuD (none :: ds)
  | p {d : PyData} {ds : Ds} (hp : pure d = true) (h : PuD ds) : PuD (some d :: ds)
  | t {kvs : List (Pr × PyData)} {ds : Ds} (hp : pureKV kvs) (h : PuD ds) : PuD (some (dictD kvs) :: ds)
theorem PuD.get {ds : Ds} (h : PuD ds) : ∀ {j : Nat} {d : PyData}, ds[j]? = some (some d) → pure d = true ∨ ∃ kvs, d = dictD kvs ∧ pureKV kvs := by
  induction h with
  | nil => intro j d e; simp at e
  | n h ih =>
    intro j d e
    cases j with
    | zero => simp at e
    | succ j => exact ih (by simpa using e)
  | p hp h ih =>
    intro j d e
    cases j with
    | zero =>
      simp at e
      subst e
      exact .inl hp
    | succ j => exact ih (by simpa using e)
  | t hp h ih =>
    intro j d e
    cases j with
    | zero =>
      simp at e
      subst e
      exact .inr ⟨_, rfl, hp⟩
    | succ j => exact ih (by simpa using e)
theorem Lc.lput (L : Lc w K H σ ds) (x : AtLst q H H') (h : PuD ds) : Lc w K H' σ ds := by
  refine ⟨L.1, fun j d hj => ?_⟩
  obtain ⟨v, e, hv⟩ := L.2 j d hj
  rcases h.get hj with hp | ⟨kvs, rfl, hp⟩
  · exact ⟨v, e, hv.upT hp x.exT⟩
  · obtain ⟨c, rfl, T⟩ := hv.tab
    refine ⟨_, e, .inr ⟨kvs, c, rfl, rfl, T.upT hp x.exT (x.but c ?_)⟩⟩
    rintro rfl
    obtain ⟨o, es, ep, xs, h1, _⟩ := T.ex
    obtain ⟨ys, hy⟩ := x.was
    rw [h1] at hy
    cases hy
end
theorem pure_encL (l : List Int) : pure (encL l) = true := pureT l
theorem pure_hall (h : Hall) : pure h.enc = true := by
  have := pure_encL h.fares
  simp only [encL, pure] at this
  simp [Hall.enc, encL, pure, pureAll, this]
theorem pure_ru : ∀ r : Ru, pure r.enc = true
  | .plain w l => by
    have := pure_encL l
    simp only [encL, pure] at this
    simp [Ru.enc, encL, pure, pureAll, this]
  | .two b r s => by simp [Ru.enc, pure, pureAll, pure_ru r, pure_ru s]
  | .oust r f => by simp [Ru.enc, pure, pureAll, pure_ru r]
theorem pure_two (r s : Ru) : pure (.tuple [r.enc, s.enc]) = true := by simp [pure, pureAll, pure_ru]
theorem pure_str (x : Str) : pure (.str x) = true := by simp [pure]
theorem pure_int (x : Int) : pure (.int x) = true := by simp [pure]
end G33
set_option Elab.async false
set_option linter.all false
set_option maxRecDepth 100000
set_option maxHeartbeats 1000000
namespace G33
open PySem
/-! ### the going through of the pair states, as plain lists -/
def hasK {α : Type} (kv : List (Pr × α)) (p : Pr) : Bool := (kv.lookup p).isSome
theorem hasK_iff {α : Type} {kv : List (Pr × α)} {p : Pr} : hasK kv p = true ↔ p ∈ kv.map (·.1) := by
  unfold hasK
  rw [List.lookup_isSome_iff]
  constructor
  · rintro ⟨q, hq, e⟩
    exact List.mem_map.mpr ⟨q, hq, (by simpa using e : p = q.1).symm⟩
  · intro h
    obtain ⟨q, hq, rfl⟩ := List.mem_map.mp h
    exact ⟨q, hq, by simp⟩
theorem lookup_map {α β : Type} (g : α → β) (p : Pr) : ∀ kv : List (Pr × α), (kv.map fun q => (q.1, g q.2)).lookup p = (kv.lookup p).map g
  | [] => rfl
  | q :: kv => by
    rw [List.map_cons]
    show (match p == q.1 with | true => some (g q.2) | false => (kv.map fun q => (q.1, g q.2)).lookup p) = Option.map g (match p == q.1 with | true => some q.2 | false => kv.lookup p)
    cases p == q.1 with
    | true => rfl
    | false => exact lookup_map g p kv
theorem lookup_append {α : Type} (p : Pr) (b : List (Pr × α)) : ∀ {a : List (Pr × α)} {x : α}, a.lookup p = some x → (a ++ b).lookup p = some x
  | [], _, h => by cases h
  | q :: a, x, h => by
    have h' : (match p == q.1 with | true => some q.2 | false => a.lookup p) = some x := h
    show (match p == q.1 with | true => some q.2 | false => (a ++ b).lookup p) = some x
    cases e : p == q.1 with
    | true => rw [e] at h'; exact h'
    | false => rw [e] at h'; exact lookup_append p b h'
theorem lookup_new {α : Type} {p : Pr} {x : α} : ∀ {a : List (Pr × α)}, hasK a p = false → (a ++ [(p, x)]).lookup p = some x
  | [], _ => by
    show (match p == p with | true => some x | false => none) = some x
    rw [beq_self_eq_true]
  | q :: a, h => by
    have h' : (match p == q.1 with | true => some q.2 | false => a.lookup p).isSome = false := h
    show (match p == q.1 with | true => some q.2 | false => (a ++ [(p, x)]).lookup p) = some x
    cases e : p == q.1 with
    | true => rw [e] at h'; cases h'
    | false => rw [e] at h'; exact lookup_new h'
theorem foldl_take {α β : Type} (g : β → α → β) (z : β) {l : List α} {i : Nat} {a : α} (h : l[i]? = some a) : (l.take (i + 1)).foldl g z = g ((l.take i).foldl g z) a := by
  rw [List.take_add_one, h, Option.toList, List.foldl_append]
  rfl
section
variable {α : Type} (nxt : Pr → Int → Pr) (may : Pr → List Int)
abbrev Bs (α : Type) := List (Pr × α) × List Pr
def vis1 (val : List (Pr × α) → Pr → Int → α) (p : Pr) (st : Bs α) (f : Int) : Bs α :=
  if hasK st.1 (nxt p f) = true then st else (st.1 ++ [(nxt p f, val st.1 p f)], st.2 ++ [nxt p f])
def visP (val : List (Pr × α) → Pr → Int → α) (st : Bs α) (p : Pr) : Bs α := (may p).foldl (vis1 nxt val p) st
def round (val : List (Pr × α) → Pr → Int → α) (st : Bs α) : Bs α := st.2.foldl (visP nxt may val) (st.1, [])
def bfs (val : Nat → List (Pr × α) → Pr → Int → α) (st0 : Bs α) : Nat → Bs α
  | 0 => st0
  | k + 1 => round nxt may (val (k + 1)) (bfs val st0 k)
variable {nxt may}
/-- what every turn keeps, is kept -/
theorem fold_keep {β γ : Type} {g : β → γ → β} {l : List γ} (I : β → Prop) (h : ∀ z a, a ∈ l → I z → I (g z a)) : ∀ z, I z → I (l.foldl g z) := by
  induction l with
  | nil => intro z hz; exact hz
  | cons a l ih =>
    intro z hz
    exact ih (fun z b hb hz => h z b (List.mem_cons_of_mem _ hb) hz) _ (h z a (List.mem_cons_self ..) hz)
/-- found grows by appending only -/
def Grows (a b : Bs α) : Prop := ∃ x y, b.1 = a.1 ++ x ∧ b.2 = a.2 ++ y
theorem Grows.refl (a : Bs α) : Grows a a := ⟨[], [], by simp, by simp⟩
theorem Grows.trans {a b c : Bs α} (h : Grows a b) (k : Grows b c) : Grows a c := by
  obtain ⟨x, y, h1, h2⟩ := h
  obtain ⟨u, v, k1, k2⟩ := k
  exact ⟨x ++ u, y ++ v, by rw [k1, h1, List.append_assoc], by rw [k2, h2, List.append_assoc]⟩
theorem vis1_grows {val : List (Pr × α) → Pr → Int → α} (p : Pr) (st : Bs α) (f : Int) : Grows st (vis1 nxt val p st f) := by
  unfold vis1
  split
  · exact .refl _
  · exact ⟨_, _, rfl, rfl⟩
theorem foldl_grows {β : Type} {g : Bs α → β → Bs α} (h : ∀ st a, Grows st (g st a)) : ∀ (l : List β) (st : Bs α), Grows st (l.foldl g st)
  | [], st => .refl st
  | a :: l, st => (h st a).trans (foldl_grows h l _)
theorem visP_grows {val : List (Pr × α) → Pr → Int → α} (st : Bs α) (p : Pr) : Grows st (visP nxt may val st p) := foldl_grows (vis1_grows p) _ _
theorem round_grows {val : List (Pr × α) → Pr → Int → α} (st : Bs α) : ∃ x, (round nxt may val st).1 = st.1 ++ x := by
  obtain ⟨x, y, h1, h2⟩ := foldl_grows (visP_grows (nxt := nxt) (may := may) (val := val)) st.2 (st.1, [])
  exact ⟨x, h1⟩
theorem bfs_grows {val : Nat → List (Pr × α) → Pr → Int → α} (st0 : Bs α) (k j : Nat) : ∃ x, (bfs nxt may val st0 (k + j)).1 = (bfs nxt may val st0 k).1 ++ x := by
  induction j with
  | zero => exact ⟨[], by simp⟩
  | succ j ih =>
    obtain ⟨x, hx⟩ := ih
    obtain ⟨y, hy⟩ := round_grows (nxt := nxt) (may := may) (val := val (k + j + 1)) (bfs nxt may val st0 (k + j))
    exact ⟨x ++ y, by rw [← Nat.add_assoc, bfs, hy, hx, List.append_assoc]⟩
theorem bfs_len {val : Nat → List (Pr × α) → Pr → Int → α} (st0 : Bs α) {k n : Nat} (h : k ≤ n) : (bfs nxt may val st0 k).1.length ≤ (bfs nxt may val st0 n).1.length := by
  obtain ⟨x, hx⟩ := bfs_grows (nxt := nxt) (may := may) (val := val) st0 k (n - k)
  rw [show k + (n - k) = n by omega] at hx
  rw [hx, List.length_append]
  omega
theorem bfs_done {val : Nat → List (Pr × α) → Pr → Int → α} {st0 : Bs α} {n : Nat} (h : (bfs nxt may val st0 n).2 = []) : ∀ j, bfs nxt may val st0 (n + j) = bfs nxt may val st0 n
  | 0 => rfl
  | j + 1 => by
    have ih := bfs_done h j
    rw [← Nat.add_assoc, bfs, ih]
    unfold round
    rw [h, List.foldl_nil, ← h]
/-- the layer lies in found -/
def LayIn (st : Bs α) : Prop := ∀ p ∈ st.2, hasK st.1 p = true
theorem vis1_in {val : List (Pr × α) → Pr → Int → α} {p : Pr} {st : Bs α} {f : Int} (h : LayIn st) : LayIn (vis1 nxt val p st f) := by
  unfold vis1
  split
  · exact h
  · intro q hq
    rw [hasK_iff, List.map_append, List.mem_append]
    rcases List.mem_append.mp hq with hq | hq
    · exact .inl (hasK_iff.mp (h q hq))
    · simp at hq
      subst hq
      exact .inr (by simp)
theorem grows_has {a b : Bs α} (g : Grows a b) {p : Pr} (h : hasK a.1 p = true) : hasK b.1 p = true := by
  obtain ⟨x, y, h1, _⟩ := g
  rw [h1, hasK_iff, List.map_append, List.mem_append]
  exact .inl (hasK_iff.mp h)
/-- what holds of the keys -/
def AllK (good : Pr → Prop) (st : Bs α) : Prop := (∀ p ∈ st.1.map (·.1), good p) ∧ ∀ p ∈ st.2, good p
theorem vis1_good {good : Pr → Prop} {val : List (Pr × α) → Pr → Int → α} {p : Pr} {st : Bs α} {f : Int} (h : AllK good st) (hn : good (nxt p f)) : AllK good (vis1 nxt val p st f) := by
  unfold vis1
  split
  · exact h
  · refine ⟨fun q hq => ?_, fun q hq => ?_⟩
    · rw [List.map_append, List.mem_append] at hq
      rcases hq with hq | hq
      · exact h.1 q hq
      · simp at hq
        subst hq
        exact hn
    · rcases List.mem_append.mp hq with hq | hq
      · exact h.2 q hq
      · simp at hq
        subst hq
        exact hn
theorem round_good {good : Pr → Prop} {val : List (Pr × α) → Pr → Int → α} {st : Bs α} (hn : ∀ p f, good p → f ∈ may p → good (nxt p f)) (h : AllK good st) : AllK good (round nxt may val st) :=
  fold_keep (AllK good) (fun z p hp hz => fold_keep (AllK good) (fun z f hf hz => vis1_good hz (hn p f (h.2 p hp) hf)) z hz) _ ⟨h.1, fun p hp => nomatch hp⟩
theorem round_in {val : List (Pr × α) → Pr → Int → α} {st : Bs α} : LayIn (round nxt may val st) :=
  fold_keep LayIn (fun z p _ hz => fold_keep LayIn (fun z f _ hz => vis1_in hz) z hz) _ fun p hp => nomatch hp
theorem bfs_good {good : Pr → Prop} {val : Nat → List (Pr × α) → Pr → Int → α} {st0 : Bs α} (hn : ∀ p f, good p → f ∈ may p → good (nxt p f)) (h : AllK good st0) : ∀ k, AllK good (bfs nxt may val st0 k)
  | 0 => h
  | k + 1 => round_good hn (bfs_good hn h k)
theorem bfs_in {val : Nat → List (Pr × α) → Pr → Int → α} {st0 : Bs α} (h : LayIn st0) : ∀ k, LayIn (bfs nxt may val st0 k)
  | 0 => h
  | k + 1 => round_in
theorem vis1_count {val : List (Pr × α) → Pr → Int → α} {c : Nat} {p : Pr} {st : Bs α} {f : Int} (h : st.1.length = c + st.2.length) : (vis1 nxt val p st f).1.length = c + (vis1 nxt val p st f).2.length := by
  unfold vis1
  split
  · exact h
  · simp only [List.length_append, List.length_cons, List.length_nil, h]
    omega
theorem foldl_part {β : Type} {g : Bs α → β → Bs α} (h : ∀ st a, Grows st (g st a)) (l : List β) (i : Nat) (st : Bs α) : Grows ((l.take i).foldl g st) (l.foldl g st) := by
  have := foldl_grows h (l.drop i) ((l.take i).foldl g st)
  rw [← List.foldl_append, List.take_append_drop] at this
  exact this
theorem grows_len {a b : Bs α} (g : Grows a b) : a.1.length ≤ b.1.length := by
  obtain ⟨x, y, h1, _⟩ := g
  rw [h1, List.length_append]
  omega
end
def rowOf (kv : List (Pr × List Int)) (p : Pr) (f : Int) : List Int := (kv.lookup p).getD [] ++ [f]
theorem lookup_mem {α : Type} {p : Pr} {x : α} : ∀ {kv : List (Pr × α)}, kv.lookup p = some x → (p, x) ∈ kv
  | [], h => by cases h
  | q :: kv, h => by
    have h' : (match p == q.1 with | true => some q.2 | false => kv.lookup p) = some x := h
    cases e : p == q.1 with
    | true =>
      rw [e] at h'
      cases h'
      rw [beq_iff_eq.mp e]
      exact List.mem_cons_self ..
    | false =>
      rw [e] at h'
      exact List.mem_cons_of_mem _ (lookup_mem h')
def RowsLt (st : Bs (List Int)) : Prop := ∀ q ∈ st.1, q.2.length ≤ st.1.length
theorem vis1_rows {nxt : Pr → Int → Pr} {p : Pr} {st : Bs (List Int)} {f : Int} (h : RowsLt st) : RowsLt (vis1 nxt rowOf p st f) := by
  unfold vis1
  split
  · exact h
  · intro q hq
    simp only [List.length_append, List.length_cons, List.length_nil]
    rcases List.mem_append.mp hq with hq | hq
    · have := h q hq
      omega
    · simp at hq
      subst hq
      simp only [rowOf, List.length_append, List.length_cons, List.length_nil]
      cases e : st.1.lookup p with
      | none => simp
      | some r =>
        have := h _ (lookup_mem e)
        simp only [Option.getD_some] at this ⊢
        omega
theorem bfs_rows {nxt : Pr → Int → Pr} {may : Pr → List Int} {st0 : Bs (List Int)} (h : RowsLt st0) : ∀ k, RowsLt (bfs nxt may (fun _ => rowOf) st0 k)
  | 0 => h
  | k + 1 => fold_keep RowsLt (fun z p _ hz => fold_keep RowsLt (fun z f _ hz => vis1_rows hz) z hz) _ (bfs_rows h k)
end G33
set_option Elab.async false
set_option linter.all false
set_option maxRecDepth 100000
set_option maxHeartbeats 1000000
namespace G33
open PySem PySem.Spec PyProof.Rows L2
/-! ### promises with any end -/
abbrev HAll (w : World) (K : PySem.W.Frag) (H : Hp) : List V → List PyData → Prop := Paired fun v d => HoldsD w K H v d
theorem hall_up {w : World} {K : PySem.W.Frag} {H H' : Hp} {vs : List V} {ds : List PyData} (h : HAll w K H vs ds) (e : Ex H H') : HAll w K H' vs ds := Paired.mapP h fun _ _ x => x.up e
theorem hall_d {w : World} {K : PySem.W.Frag} {H : Hp} : ∀ {ds : List PyData} {vs : List V}, DpAll K H vs ds → HAll w K H vs ds
  | [], _, h => by cases h; exact .nil
  | d :: ds, _, h => by
    cases h with
    | cons h1 h2 => exact .cons (.inl h1) (hall_d h2)
theorem hall_len {w : World} {K : PySem.W.Frag} {H : Hp} {vs : List V} {ds : List PyData} (h : HAll w K H vs ds) : vs.length = ds.length := Paired.length h
theorem paired_at {α β : Type} {F : α → β → Prop} : ∀ {l : List α} {m : List β} {i : Nat} {b : β}, Paired F l m → m[i]? = some b → ∃ a, l[i]? = some a ∧ F a b
  | _, _, _, _, .nil, h => by simp at h
  | _, _, 0, _, .cons r t, h => by
    simp at h
    subst h
    exact ⟨_, rfl, r⟩
  | _, _, i + 1, _, .cons r t, h => by
    obtain ⟨a, e, f⟩ := paired_at (i := i) t (by simpa using h)
    exact ⟨a, by simpa using e, f⟩
theorem Lc.startH {w : World} {K : PySem.W.Frag} {H : Hp} {N : List Str} {vs : List V} {as : List PyData} (h : HAll w K H vs as) : Lc w K H (L2.start N vs) (startD N.length as) := by
  have hl := hall_len h
  refine ⟨by simp [L2.start, startD, hl], fun i d e => ?_⟩
  unfold startD at e
  have hi : i < as.length := by
    by_cases hi : i < as.length
    · exact hi
    · rw [List.getElem?_append_right (by simpa using hi)] at e
      rw [List.getElem?_replicate] at e
      split at e <;> cases e
  rw [List.getElem?_append_left (by simpa using hi), List.getElem?_map] at e
  cases q : as[i]? with
  | none => rw [q] at e; cases e
  | some d' =>
    rw [q] at e
    cases e
    obtain ⟨v, a, b⟩ := paired_at h q
    refine ⟨v, ?_, b⟩
    unfold L2.start
    rw [List.getElem?_append_left (by simpa using (by omega : i < vs.length)), List.getElem?_map, a]
    rfl
def oD (K : PySem.W.Frag) (d : PyData) : Out := fun H v H' => Ex H H' ∧ Dp K H' v d
def oH (w : World) (K : PySem.W.Frag) (d : PyData) : Out := fun H v H' => Ex H H' ∧ HoldsD w K H' v d
/-- a new list -/
def oN (K : PySem.W.Frag) (xs : List PyData) : Out := fun H v H' => Ex H H' ∧ ∃ p vs, v = .ref p ∧ H p = none ∧ H' p = some (.lst vs) ∧ DpAll K H' vs xs
theorem oN.d {K : PySem.W.Frag} {xs : List PyData} {H H' : Hp} {v : V} (h : oN K xs H v H') : oD K (.list xs) H v H' := by
  obtain ⟨e, p, vs, rfl, _, h1, h2⟩ := h
  exact ⟨e, .lst (.inl (.inl h1)) h2⟩
theorem ex_none {H H' : Hp} (e : Ex H H') {p : Addr} (h : H' p = none) : H p = none := by
  cases q : H p with
  | none => rfl
  | some u => rw [e _ _ q] at h; cases h
def spX (w : World) (K : PySem.W.Frag) (n : Nat) (R : List PyData → Out → Prop) : Sp := fun vs H Q _ => ∃ dl O, R dl O ∧ dl.length = n ∧ HAll w K H vs dl ∧ ∀ u H', O H u H' → Q u H'
def taH (w : World) (K : PySem.W.Frag) (ds : Ds) (dl : List PyData) : TA := fun σ H Q => Lc w K H σ ds ∧ ∀ vs H', Ex H H' → HAll w K H' vs dl → Q vs H'
def tRO (w : World) (K : PySem.W.Frag) (ds : Ds) (O : Out) : TS := fun D σ H => Lc w K H σ ds ∧ ∀ v H', O H v H' → D.rt v H'
section
variable {X : Cx} {ds : Ds} {d d1 d2 : PyData} {a b e : Expr} {es : List Expr} {pos p : Pos} {st : Stmt} {rest sts : List Stmt} {x : Str} {pos' : Pos} {O : Out}
theorem ah_nil : PA X [] (taH X.w X.K ds []) := pa_imp pa_nil fun σ H Q q => q.2 [] H (Evl.Ex.refl H) .nil
theorem ah_cons {dl : List PyData} (ha : PE X e (teH X.w X.K ds d)) (hr : PA X es (taH X.w X.K ds dl)) (hs : starEach (e :: es) X.env = (false, eval e X.env) :: starEach es X.env := by rfl) : PA X (e :: es) (taH X.w X.K ds (d :: dl)) :=
  pa_imp (pa_cons ha hr hs) fun σ H Q q => ⟨q.1, fun v H1 e1 h1 => ⟨q.1.up e1, fun vs H2 e2 h2 => q.2 (v :: vs) H2 (e1.trans e2) (.cons (h1.up e2) h2)⟩⟩
theorem ah_d {dl : List PyData} (h : PA X es (taD X.w X.K ds dl)) : PA X es (taH X.w X.K ds dl) := pa_imp h fun σ H Q q => ⟨q.1, fun vs H' e hd => q.2 vs H' e (hall_d hd)⟩
theorem po_call {k k' : Nat} {ps : List Str} {R : List PyData → Out → Prop} {n : Nat} {x : Str} {dl : List PyData} (F : OkF X.prog X.w X.K X.mg X.base k x ps (spX X.w X.K n R)) (hr : Room k' X.A) (hR : R dl O) (ha : PA X (e :: es) (taH X.w X.K ds dl)) (hk : k ≤ k' := by decide)
    (hn : dl.length = n := by rfl) (hg : Gl X x := by rfl) (hdb : (x == ("__debug__" : Str)) = false := by decide) (he : starEach (e :: es) X.env = (false, eval e X.env) :: starEach es X.env := by rfl) (hpl : (backTo pos (starEach es X.env)).any (·.1) = false := by rfl) :
    PE X (.Call (.Name x p) (e :: es) [] pos) (teO X.w X.K ds O) := by
  obtain ⟨fd, F1, b⟩ := F.ex
  exact pe_imp (pe_call F1 (hr.mono hk) hg F.glo F.kp b .nil pass0 ha hdb he hpl) fun σ H Q q => ⟨q.1, fun vs H1 e1 h1 => ⟨dl, O, hR, hn, by rw [List.append_nil]; exact h1, fun u H2 o => q.2 H1 u H2 e1 o⟩⟩
theorem pd_o (h : PE X e (teO X.w X.K ds (oD X.K d))) : PE X e (teD X.w X.K ds d) := pe_imp h fun σ H Q q => ⟨q.1, fun H1 v H' e1 o => q.2 v H' (e1.trans o.1) o.2⟩
theorem ph_o (h : PE X e (teO X.w X.K ds (oH X.w X.K d))) : PE X e (teH X.w X.K ds d) := pe_imp h fun σ H Q q => ⟨q.1, fun H1 v H' e1 o => q.2 v H' (e1.trans o.1) o.2⟩
theorem pd_oN {xs : List PyData} (h : PE X e (teO X.w X.K ds (oN X.K xs))) : PE X e (teD X.w X.K ds (.list xs)) := pe_imp h fun σ H Q q => ⟨q.1, fun H1 v H' e1 o => q.2 v H' (e1.trans o.1) o.d.2⟩
theorem po_lst {dl : List PyData} (h : PA X es (taD X.w X.K ds dl)) (hl : dl.length ≤ 100000) : PE X (.List es pos) (teO X.w X.K ds (oN X.K dl)) :=
  pe_imp (pe_lst h) fun σ H Q q => ⟨q.1, fun vs H1 e1 h1 => ⟨by rw [dpa_len h1]; exact Evl.sz_of hl, fun p hp => q.2 H1 _ _ e1 ⟨Evl.Ex.new hp, p, _, rfl, hp, upd_same, h1.up (Evl.Ex.new hp)⟩⟩⟩
theorem po_listRg {i j : Int} {p2 p3 : Pos} (hc : X.calm = true) (hml : X.mg "list" = none) (hmr : X.mg "range" = none) (ha : PE X a (teD X.w X.K ds (.int i))) (hb : PE X b (teD X.w X.K ds (.int j))) (hk : RgOk i j) (hgl : Gl X "list" := by rfl) (hgr : Gl X "range" := by rfl)
    (na : starEach [a, b] X.env = (false, eval a X.env) :: starEach [b] X.env := by rfl) (nb : starEach [b] X.env = (false, eval b X.env) :: starEach [] X.env := by rfl) (hpr : (backTo p3 (starEach [b] X.env)).any (·.1) = false := by rfl) (nl : starEach [.Call (.Name "range" p2) [a, b] [] p3] X.env = (false, eval (.Call (.Name "range" p2) [a, b] [] p3) X.env) :: starEach [] X.env := by rfl) :
    PE X (.Call (.Name "list" p) [.Call (.Name "range" p2) [a, b] [] p3] [] pos) (teO X.w X.K ds (oN X.K ((rgD i j).map .int))) :=
  pe_imp (pe_listRg hc hgl hml (prg_2 hgr hmr ha hb na nb hpr) nl) fun σ H Q q => ⟨q.1, fun v H1 e1 h1 => ⟨q.1.up e1, fun w H2 e2 h2 => by
    have h1 := h1.up e2
    cases h1
    cases h2
    exact ⟨i, j, rfl, rfl, hk, fun r hr => q.2 H2 _ _ (e1.trans e2) ⟨Evl.Ex.new hr, r, _, rfl, hr, upd_same, by rw [rgV_eq]; exact ints_dpa _⟩⟩⟩⟩
/-- statements that end by O -/
theorem so_retN {xs : List PyData} (he : PE X e (teO X.w X.K ds (oN X.K xs))) : PSs X [.Return (some e) pos] (tRO X.w X.K ds (oN X.K xs)) := pss_imp (pss_one (ps_ret he)) fun D σ H q => ⟨q.1, fun H1 v H' e1 o => by
  obtain ⟨e2, p, vs, rfl, h1, h2, h3⟩ := o
  exact q.2 _ _ ⟨e1.trans e2, p, vs, rfl, ex_none e1 h1, h2, h3⟩⟩
theorem so_d (h : PSs X sts (tR X.w X.K ds d)) : PSs X sts (tRO X.w X.K ds (oD X.K d)) := pss_imp h fun D σ H q => ⟨q.1, fun v H' e hd => q.2 v H' ⟨e, hd⟩⟩
/-- x = e (data, or a dict); a dropped value -/
theorem sh_asg (i : Nat) (hN : X.N.Nodup) (he : PE X e (teH X.w X.K ds d1)) (hr : PSs X rest (tR X.w X.K (ds.set i (some d1)) d)) (hi : X.N[i]? = some x := by rfl) (hx : Loc X.env.scope x := by first | exact .inl rfl | exact .inr rfl)
    (hs : swapsWith e (some (.Name x pos')) pos.line X.env = Pure.pure false := by rfl) (hf : X.fn x = true ∨ X.env.scope.names.lookup x = some .local := by first | exact .inl rfl | exact .inr rfl) : PSs X (.Assign [.Name x pos'] e pos :: rest) (tR X.w X.K ds d) :=
  pss_imp (pss_cons (ps_set hN hi hx he hs hf) hr) fun D σ H q => ⟨q.1, fun v H1 e1 h1 => ⟨(q.1.up e1).setH i h1, fun u H2 e2 h2 => q.2 u H2 (e1.trans e2) h2⟩⟩
/-- the rest by the Hoare rules -/
theorem so_h (h : ∀ σ0 H0, Lc X.w X.K H0 σ0 ds → PSs X sts (tH (fun σ H => σ = σ0 ∧ H = H0) (fun _ _ => False) (fun v H' => O H0 v H'))) : PSs X sts (tRO X.w X.K ds O) :=
  ⟨fun pins s σ H D I q => (h σ H q.1).run pins s σ H D I ⟨⟨rfl, rfl⟩, fun _ _ f => f.elim, fun v H' o => q.2 v H' o⟩⟩
theorem sr_h (h : ∀ σ0 H0, Lc X.w X.K H0 σ0 ds → PSs X sts (tH (fun σ H => σ = σ0 ∧ H = H0) (fun _ _ => False) (fun v H' => Ex H0 H' ∧ Dp X.K H' v d))) : PSs X sts (tR X.w X.K ds d) :=
  ⟨fun pins s σ H D I q => (h σ H q.1).run pins s σ H D I ⟨⟨rfl, rfl⟩, fun _ _ f => f.elim, fun v H' o => q.2 v H' o.1 o.2⟩⟩
end
theorem mk_okX {P : Program} {w : World} {K : PySem.W.Frag} {mg : Str → Option Value} {base : Heap} {Nm ps : List Str} {k : Nat} {R : List PyData → Out → Prop} (T : Fx K mg) (i : Nat) {x : Str} {params : Arguments} {body : List Stmt} {scope : Scope}
    (hd : fn[i]? = some ⟨(x, none), x, x, params, body, scope, [], []⟩) (S : FnScope Nm ps scope) (hg : fa[i]? = some (.glo x))
    (hb : ∀ (kV doc pm : Value) (an : Option Addr) (cdv ct : Value) (us : List Value), us.length = ps.length → bindArgs (PySem.W.fnOf x x params body scope .none kV doc pm an cdv ct) ⟨us, []⟩ = Pure.pure (ps.zip us))
    (h : ∀ (cdv : Value) (A : Around) (outer : List Env) (s : Shared) (H : Hp) (E : XK), Room k (A.deeper (envOfC x scope s.heap.objs.size (He.ga K x) cdv)) → ∀ dl O, R dl O → dl.length = ps.length →
      PSs (cxOf CX0 P w K mg base Nm x scope (He.ga K x) cdv A outer s H E).nox body (tRO w K (startD Nm.length dl) O)) : OkF P w K mg base (k + 1) x ps (spX w K ps.length R) := by
  obtain ⟨fd, F⟩ := T.says.def_ i hd
  refine ⟨⟨fd, F.ok S (fun vs H Q E h => ?_) fun cdv A outer s H vs Q E hr hsp => ?_, FunD.bindsN F hb⟩, T.glo i hg, F.kp⟩
  · obtain ⟨dl, O, _, hn, hd, _⟩ := h
    rw [hall_len hd, hn]
  · obtain ⟨dl, O, hRd, hn, hd, g⟩ := hsp
    exact ⟨tRO w K (startD Nm.length dl) O, (h cdv A outer s H E hr dl O hRd hn).nox, Lc.startH hd, g⟩
/-! ### for over what a call gives -/
def wvO (w : World) (K : PySem.W.Frag) (ds : Ds) (O : Out) (d : PyData) (xs : List PyData) : TI := fun σ H R => Lc w K H σ ds ∧ ∀ J H1 v H', Ex H H1 → O H1 v H' → (∀ H2, Dp K H2 v d → Walks K J H2 xs) → R J H'
theorem walks_list {K : PySem.W.Frag} {a : Addr} {xs : List PyData} {H2 : Hp} (h2 : Dp K H2 (.ref a) (.list xs)) : Walks K (Itl K a) H2 xs := by
  cases h2 with
  | lst hs hd =>
    refine ⟨fun i x hx => ?_, _, hs, by rw [dpa_len hd]; exact Nat.le_refl _⟩
    obtain ⟨v, hv, dv⟩ := dpa_get hd hx
    refine ⟨⟨_, v, hs, hv⟩, fun u H3 y => ?_⟩
    obtain ⟨rfl, y⟩ := y
    have := y _ hs
    rw [hv] at this
    cases this
    exact ⟨Evl.Ex.refl _, dv⟩
theorem wv_listO {X : Cx} {ds : Ds} {tg e : Expr} {xs : List PyData} (h : PE X e (teO X.w X.K ds (oN X.K xs))) : PI X tg e (wvO X.w X.K ds (oN X.K xs) (.list xs) xs) :=
  pi_imp (pi_list h) fun σ H R q => ⟨q.1, fun H1 v H' e1 o => by
    have o' := o
    obtain ⟨e2, p, vs, rfl, h1, h2, h3⟩ := o
    exact ⟨p, rfl, ⟨vs, .inl (.inl h2)⟩, q.2 _ H1 _ H' e1 o' fun H2 h => walks_list h⟩⟩
theorem hp_forO1 {X : Cx} {ι : Type} {ds : Ds} {d : PyData} {O : Out} {iter : Expr} {body : List Stmt} {pos : Pos} {P N : L2.St → Hp → Prop} {R : V → Hp → Prop} {x : Str} {px : Pos} (t : Nat) (items : List ι) (en : ι → PyData) (I : V → Nat → L2.St → Hp → Prop) (B : V → Nat → ι → L2.St → Hp → Prop)
    (hx : ∀ e o, ¬ X.xe e o) (hc : X.calm = true) (hN : X.N.Nodup) (hi : PI X (.Name x px) iter (wvO X.w X.K ds O d (items.map en)))
    (hL : ∀ σ H, P σ H → Lc X.w X.K H σ ds) (h0 : ∀ σ H H1 v H', P σ H → Ex H H1 → O H1 v H' → I v 0 σ H') (hd : ∀ v i σ H, I v i σ H → Dp X.K H v d) (hn : ∀ v σ H, I v items.length σ H → N σ H)
    (hgB : ∀ v i a σ H u H2, items[i]? = some a → I v i σ H → Ex H H2 → Dp X.K H2 u (en a) → B v i a (σ.set t (some u)) H2)
    (hb : ∀ v i a, items[i]? = some a → PSs X body (tH (B v i a) (I v (i + 1)) R)) (ht : X.N[t]? = some x := by rfl) (hl : Loc X.env.scope x := by first | exact .inl rfl | exact .inr rfl) (hf : X.fn x = true ∨ X.env.scope.names.lookup x = some .local := by first | exact .inl rfl | exact .inr rfl)
    (hs : ∀ z, foldedSetIterable iter X.env z = Pure.pure z := by intro _; rfl) : PS X (.For (.Name x px) iter body [] pos) (tH P N R) := by
  have hp : PassesOwn (model X.prog X.w) X.A X.env X.xe := fun e o z => absurd z (hx e o)
  refine ps_imp (ps_for hp hc hi (pg_name hN ht hl hf) (hf_of (α := V × Nat × ι) (ok := fun a => items[a.2.1]? = some a.2.2) (B := fun a => B a.1 a.2.1 a.2.2) (M := fun a => I a.1 (a.2.1 + 1)) (R := R) fun a k => hb a.1 a.2.1 a.2.2 k) hs) fun D σ H q => ?_
  refine ⟨hL σ H q.1, fun J H1 v H' e1 o wk => ⟨fun i m σ1 H1 => m = items.length - i ∧ i ≤ items.length ∧ I v i σ1 H1, ⟨items.length, rfl, Nat.zero_le _, h0 σ H H1 v H' q.1 e1 o⟩, ?_⟩⟩
  rintro i m σ1 H2 ⟨rfl, hi', i1⟩
  obtain ⟨wg, ws⟩ := wk H2 (hd _ _ _ _ i1)
  by_cases hlt : i < items.length
  · refine .inr ?_
    have hit : items[i]? = some items[i] := List.getElem?_eq_getElem hlt
    obtain ⟨g1, g2⟩ := wg i (en items[i]) (by rw [List.getElem?_map, hit]; rfl)
    refine ⟨g1, fun σ' H' => I v (i + 1) σ' H', fun σ' H' z => ⟨items.length - (i + 1), by omega, rfl, by omega, z⟩, fun u H3 y => ?_⟩
    obtain ⟨e2, d2⟩ := g2 u H3 y
    exact ⟨(v, i, items[i]), hit, hgB v i items[i] σ1 H2 u H3 hit i1 e2 d2, fun _ _ z => z, q.2.2⟩
  · have ei : i = items.length := by omega
    subst ei
    rw [List.length_map] at ws
    exact .inl ⟨ws, q.2.1 _ _ (hn _ _ _ i1)⟩
/-- for x in ..: the walk and the invariant as one likes -/
theorem hp_forG {X : Cx} {ι : Type} {wi : TI} {iter : Expr} {body : List Stmt} {pos : Pos} {P N : L2.St → Hp → Prop} {R : V → Hp → Prop} {x : Str} {px : Pos} (t : Nat) (items : List ι) (en : ι → PyData) (I : V → Nat → L2.St → Hp → Prop) (B : V → Nat → ι → L2.St → Hp → Prop)
    (hx : ∀ e o, ¬ X.xe e o) (hc : X.calm = true) (hN : X.N.Nodup) (hi : PI X (.Name x px) iter wi)
    (hW : ∀ σ H (R' : It → Hp → Prop), P σ H → (∀ J v H', (∀ i σ1 H1, I v i σ1 H1 → Walks X.K J H1 (items.map en)) → I v 0 σ H' → R' J H') → wi σ H R') (hn : ∀ v σ H, I v items.length σ H → N σ H)
    (hgB : ∀ v i a σ H u H2, items[i]? = some a → I v i σ H → Ex H H2 → Dp X.K H2 u (en a) → B v i a (σ.set t (some u)) H2)
    (hb : ∀ v i a, items[i]? = some a → PSs X body (tH (B v i a) (I v (i + 1)) R)) (ht : X.N[t]? = some x := by rfl) (hl : Loc X.env.scope x := by first | exact .inl rfl | exact .inr rfl) (hf : X.fn x = true ∨ X.env.scope.names.lookup x = some .local := by first | exact .inl rfl | exact .inr rfl)
    (hs : ∀ z, foldedSetIterable iter X.env z = Pure.pure z := by intro _; rfl) : PS X (.For (.Name x px) iter body [] pos) (tH P N R) := by
  have hp : PassesOwn (model X.prog X.w) X.A X.env X.xe := fun e o z => absurd z (hx e o)
  refine ps_imp (ps_for hp hc hi (pg_name hN ht hl hf) (hf_of (α := V × Nat × ι) (ok := fun a => items[a.2.1]? = some a.2.2) (B := fun a => B a.1 a.2.1 a.2.2) (M := fun a => I a.1 (a.2.1 + 1)) (R := R) fun a k => hb a.1 a.2.1 a.2.2 k) hs) fun D σ H q => ?_
  refine hW σ H _ q.1 fun J v H' wk i0 => ⟨fun i m σ1 H1 => m = items.length - i ∧ i ≤ items.length ∧ I v i σ1 H1, ⟨items.length, rfl, Nat.zero_le _, i0⟩, ?_⟩
  rintro i m σ1 H2 ⟨rfl, hi', i1⟩
  obtain ⟨wg, ws⟩ := wk i σ1 H2 i1
  by_cases hlt : i < items.length
  · refine .inr ?_
    have hit : items[i]? = some items[i] := List.getElem?_eq_getElem hlt
    obtain ⟨g1, g2⟩ := wg i (en items[i]) (by rw [List.getElem?_map, hit]; rfl)
    refine ⟨g1, fun σ' H' => I v (i + 1) σ' H', fun σ' H' z => ⟨items.length - (i + 1), by omega, rfl, by omega, z⟩, fun u H3 y => ?_⟩
    obtain ⟨e2, d2⟩ := g2 u H3 y
    exact ⟨(v, i, items[i]), hit, hgB v i items[i] σ1 H2 u H3 hit i1 e2 d2, fun _ _ z => z, q.2.2⟩
  · have ei : i = items.length := by omega
    subst ei
    rw [List.length_map] at ws
    exact .inl ⟨ws, q.2.1 _ _ (hn _ _ _ i1)⟩
/-- x = e, e with any end -/
theorem hs_asgO {X : Cx} {ds : Ds} {O : Out} {e : Expr} {x : Str} {pos pos' : Pos} {P N : L2.St → Hp → Prop} {R : V → Hp → Prop} (i : Nat) (hN : X.N.Nodup) (he : PE X e (teO X.w X.K ds O)) (hL : ∀ σ H, P σ H → Lc X.w X.K H σ ds) (hn : ∀ σ H H1 v H', P σ H → Ex H H1 → O H1 v H' → N (σ.set i (some v)) H') (hi : X.N[i]? = some x := by rfl) (hx : Loc X.env.scope x := by first | exact .inl rfl | exact .inr rfl)
    (hs : swapsWith e (some (.Name x pos')) pos.line X.env = Pure.pure false := by rfl) (hf : X.fn x = true ∨ X.env.scope.names.lookup x = some .local := by first | exact .inl rfl | exact .inr rfl) : PS X (.Assign [.Name x pos'] e pos) (tH P N R) :=
  ps_imp (ps_set hN hi hx he hs hf) fun D σ H q => ⟨hL σ H q.1, fun H1 v H' e1 o => q.2.1 _ _ (hn σ H H1 v H' q.1 e1 o)⟩
/-! ### a comprehension gives a new list -/
theorem lc_N {w : World} {K : PySem.W.Frag} {ι : Type} {ds : Ds} {items : List ι} {en : ι → PyData} {f : ι → Bool} {gq : ι → PyData} {dsf : ι → Ds} {g : TG} {vs : List Nat} (hp : ∀ a, a ∈ items → pure (gq a) = true) (hz : items.length ≤ 100000)
    (hg : ∀ a, a ∈ items → ∀ v (σ0 : L2.St) H (Q : L2.St → Hp → Prop), Lc w K H (L2.wipe σ0 vs) (wipeD ds vs) → Dp K H v (en a) → (∀ σ2, L2.wipe σ2 vs = L2.wipe σ0 vs → Lc w K H σ2 (dsf a) → Q σ2 H) → g v (L2.wipe σ0 vs) H Q)
    {σ : L2.St} {H : Hp} {Q : VK} (q : Lc w K H σ ds ∧ ∀ H1 v H', Ex H H1 → oN K ((items.filter f).map gq) H1 v H' → Q v H') : tLc (wiD w K ds (items.map en)) g (ttU w K items f dsf) (teU w K items f gq dsf) vs σ H Q := by
  refine ⟨q.1, fun J H1 e1 wk D hD => ⟨fun i m Hc => m = items.length - i ∧ i ≤ items.length ∧ Ex H1 Hc ∧ ∃ acc, Hc D = some (.lst acc) ∧ DpAll K Hc acc (((items.take i).filter f).map gq), ⟨items.length, rfl, Nat.zero_le _, Evl.Ex.new hD, [], upd_same, by simpa using DpAll.nil⟩, ?_⟩⟩
  rintro i m Hc ⟨rfl, hi, ec, acc, hacc, dacc⟩
  obtain ⟨wg, ws⟩ := wk Hc ec
  by_cases hlt : i < items.length
  · have ha : items[i]? = some items[i] := List.getElem?_eq_getElem hlt
    have hmem : items[i] ∈ items := List.getElem_mem hlt
    obtain ⟨go, yl⟩ := wg i (en items[i]) (by rw [List.getElem?_map, ha]; rfl)
    have hpz : ∀ x ∈ (items.take i).filter f, pure (gq x) = true := fun x hx => hp x (List.mem_of_mem_take (List.mem_filter.mp hx).1)
    have hpa : pureAll (((items.take i).filter f).map gq) = true := by
      have : ∀ l : List ι, (∀ x ∈ l, pure (gq x) = true) → pureAll (l.map gq) = true := by
        intro l
        induction l with
        | nil => intro _; simp [pureAll]
        | cons x l ih => intro h; simp [pureAll, h x (List.mem_cons_self ..), ih fun y hy => h y (List.mem_cons_of_mem _ hy)]
      exact this _ hpz
    refine .inr ⟨go, fun Hn => Ex H1 Hn ∧ ∃ acc, Hn D = some (.lst acc) ∧ DpAll K Hn acc (((items.take (i + 1)).filter f).map gq), fun Hn ⟨a1, a2⟩ => ⟨items.length - (i + 1), by omega, rfl, hlt, a1, a2⟩, fun v H2 y => ?_⟩
    obtain ⟨e2, dv⟩ := yl v H2 y
    have eT : (items.take (i + 1)).filter f = (items.take i).filter f ++ (if f items[i] = true then [items[i]] else []) := by
      rw [List.take_add_one, ha, List.filter_append]
      cases hf : f items[i] <;> simp [hf]
    refine hg items[i] hmem v σ H2 _ (((q.1.up e1).up (ec.trans e2)).wipe vs) dv fun σ2 w2 L2' => ⟨w2, items[i], hmem, L2', fun H3 e3 => ?_⟩
    cases hf : f items[i] with
    | false =>
      refine iteF ⟨ec.trans (e2.trans e3), acc, e3 D _ (e2 D _ hacc), ?_⟩
      rw [eT, hf, if_neg Bool.false_ne_true, List.append_nil]
      exact (dacc.up e2).up e3
    | true =>
      refine iteT ⟨items[i], hmem, hf, L2'.up e3, fun y H4 e4 dy => ⟨acc, e4 D _ (e3 D _ (e2 D _ hacc)), ?_, Evl.Ex.mut (ec.trans (e2.trans (e3.trans e4))) hD, acc ++ [y], upd_same, ?_⟩⟩
      · have hl := dpa_len dacc
        refine Evl.sz_lt ?_
        rw [hl, List.length_map]
        have h1 := List.length_filter_le f (items.take i)
        rw [List.length_take] at h1
        omega
      · rw [eT, hf, if_pos rfl, List.map_append]
        have eD := e4 D _ (e3 D _ (e2 D _ hacc))
        refine dpa_append (dpa_upT (ExT.lst eD) _ hpa (((dacc.up e2).up e3).up e4)) (.cons (dy.upT (hp _ hmem) (ExT.lst eD)) .nil)
  · have ei : i = items.length := by omega
    subst ei
    rw [List.take_length] at dacc
    refine .inl ⟨by rw [List.length_map] at ws; exact ws, q.2 H _ _ (Evl.Ex.refl H) ⟨e1.trans ec, D, acc, rfl, ex_none e1 hD, hacc, dacc⟩⟩
theorem po_lc1 {X : Cx} {ι : Type} {ds : Ds} {elt iter : Expr} {ifs : List Expr} {scope : Scope} {pos p1 : Pos} {x : Str} (j : Nat) (items : List ι) (en : ι → PyData) (f : ι → Bool) (gq : ι → PyData) (hc : X.calm = true) (hN : X.N.Nodup) (hi : PI X (.Name x p1) iter (wiD X.w X.K ds (items.map en))) (ok : BlkOk X.N X.env.scope scope [(x, j)])
    (hg : ∀ s H C cl fp, PG (BX X scope s H C cl fp) (.Name x p1) (gName j)) (hp : ∀ a, a ∈ items → pure (gq a) = true) (hz : items.length ≤ 100000)
    (ht : ∀ a, a ∈ items → ∀ s H C cl fp, PTs (BX X scope s H C cl fp) ifs (ttD X.w X.K (ds.set j (some (en a))) (f a))) (he : ∀ a, a ∈ items → f a = true → ∀ s H C cl fp, PE (BX X scope s H C cl fp) elt (teD X.w X.K (ds.set j (some (en a))) (gq a)))
    (hs : ∀ z, foldedSetIterable iter X.env z = Pure.pure z := by intro _; rfl) :
    PE X (.ListComp elt [⟨.Name x p1, iter, ifs, 0⟩] scope pos) (teO X.w X.K ds (oN X.K ((items.filter f).map gq))) :=
  pe_imp (pe_lc hc hN hi ok hg (fun s H C cl fp => pts_U (X := BX X scope s H C cl fp) (dsf := fun a => ds.set j (some (en a))) fun a ha => ht a ha s H C cl fp) (fun s H C cl fp => pe_U (X := BX X scope s H C cl fp) fun a ha hf => he a ha hf s H C cl fp) hs) fun σ H Q q =>
    lc_N hp hz (fun a _ v σ0 H Q L h k => g1_D L h k) q
end G33
set_option Elab.async false
set_option linter.all false
set_option maxRecDepth 100000
set_option maxHeartbeats 1000000
namespace G33
open PySem PySem.Spec PyProof.Rows L2
theorem set_same {σ : L2.St} {i : Nat} {o : Option V} (h : σ[i]? = some o) : σ.set i o = σ := by
  refine List.ext_getElem? fun j => ?_
  by_cases e : i = j
  · subst e
    rw [List.getElem?_set_self (List.getElem?_eq_some_iff.mp h).1, h]
  · rw [List.getElem?_set_ne e]
theorem Lc.li {w : World} {K : PySem.W.Frag} {H : Hp} {σ : L2.St} {ds : Ds} {t : Nat} {q : Addr} {vs : List V} {xs : List PyData} (L : Lc w K H σ ds) (Li : LiA K H σ t q vs xs) : Lc w K H σ (ds.set t (some (.list xs))) := by
  have := L.set t Li.dp
  rw [set_same Li.slot] at this
  exact this
theorem LiA.set {K : PySem.W.Frag} {H : Hp} {σ : L2.St} {t i : Nat} {q : Addr} {vs : List V} {xs : List PyData} {o : Option V} (L : LiA K H σ t q vs xs) (h : i ≠ t) : LiA K H (σ.set i o) t q vs xs := ⟨by rw [List.getElem?_set_ne h]; exact L.slot, L.here, L.data⟩
theorem dpa_set {K : PySem.W.Frag} {H : Hp} {v : V} {d : PyData} (h : Dp K H v d) : ∀ (j : Nat) {vs : List V} {xs : List PyData}, DpAll K H vs xs → DpAll K H (vs.set j v) (xs.set j d)
  | _, _, _, .nil => by simpa using DpAll.nil
  | 0, _, _, .cons a b => .cons h b
  | j + 1, _, _, .cons a b => .cons a (dpa_set h j b)
section
variable {X : Cx} {ds : Ds} {d d1 : PyData} {a b e i : Expr} {es : List Expr} {pos pos' pp p tpos : Pos} {P N : L2.St → Hp → Prop} {R : V → Hp → Prop}
/-- x[i] = e, x a list in the slot t -/
theorem hp_setL (t : Nat) {f : Str} {k : Nat} (hi : PE X i (teD X.w X.K ds (.int (k : Int)))) (he : PE X e (teD X.w X.K ds d)) (hL : ∀ σ H, P σ H → Lc X.w X.K H σ ds)
    (hn : ∀ σ H, P σ H → ∃ q vs, σ[t]? = some (some (.ref q)) ∧ H q = some (.lst vs) ∧ k < vs.length ∧ ∀ v H1, Ex H H1 → Dp X.K H1 v d → N σ (upd H1 q (.lst (vs.set k v)))) (hN : X.N[t]? = some f := by rfl) (hvis : Vis X.env.scope f := by first | exact Or.inl rfl | exact Or.inr (Or.inl rfl) | exact Or.inr (Or.inr rfl))
    (hd : (f == ("__debug__" : Str)) = false := by decide) (hcd : (f == ("__classdict__" : Str)) = false := by decide) (hs : swapsWithSole [.Subscript (.Name f pp) i pos'] e pos.line X.env = Pure.pure false := by rfl) (hw : swappedStores [.Subscript (.Name f pp) i pos'] e X.env = Pure.pure none := by rfl)
    (ha : ∀ v, assign (.Subscript (.Name f pp) i pos') X.env v = (do let ov ← holding [v] (eval (.Name f pp) X.env); let iv ← holding [v, ov] (eval i X.env); standAt pos'; holding [v, ov, iv] (setItem ov iv v); release [v, ov, iv] []) := by intro _; rfl) :
    PS X (.Assign [.Subscript (.Name f pp) i pos'] e pos) (tH P N R) :=
  ps_imp (ps_asg he (pg_sub (pe_var hN hvis hd hcd) hi set_list ha) hs hw) fun D σ H q => by
    obtain ⟨q', vs, e1, e2, hk, g⟩ := hn σ H q.1
    refine ⟨hL σ H q.1, fun v H1 x1 dv => ⟨_, e1, (hL σ H q.1).up x1, fun u H2 x2 du => ?_⟩⟩
    cases du
    exact ⟨q', vs, (k : Int), k, rfl, rfl, x2 _ _ (x1 _ _ e2), by unfold ixN; rw [if_pos (by omega), if_pos (by omega), Int.toNat_natCast], q.2.1 _ _ (g v H2 (x1.trans x2) (dv.up x2))⟩
/-- list(a tuple or list) -/
theorem po_list {xs : List PyData} (hm : X.mg "list" = none) (ha : PE X e (teD X.w X.K ds d)) (hd : d = .list xs ∨ d = .tuple xs) (hg : Gl X "list" := by rfl) (he : starEach [e] X.env = (false, eval e X.env) :: starEach [] X.env := by rfl) : PE X (.Call (.Name "list" p) [e] [] pos) (teO X.w X.K ds (oN X.K xs)) :=
  pe_imp (pe_callTy call_list_of hg hm (by decide +kernel) (pa_cons ha pa_nil he) (by decide) (by decide) he (by rfl)) fun σ H Q q => ⟨q.1, fun v H1 e1 hv => by
    rcases hd with rfl | rfl
    · cases hv with
      | lst hs hd => exact ⟨_, _, rfl, .inl hs, fun p hp => q.2 H1 _ _ e1 ⟨Evl.Ex.new hp, p, _, rfl, hp, upd_same, hd.up (Evl.Ex.new hp)⟩⟩
    · cases hv with
      | tup hs hd => exact ⟨_, _, rfl, .inr hs, fun p hp => q.2 H1 _ _ e1 ⟨Evl.Ex.new hp, p, _, rfl, hp, upd_same, hd.up (Evl.Ex.new hp)⟩⟩⟩
end
end G33
set_option Elab.async false
set_option linter.all false
set_option maxRecDepth 100000
set_option maxHeartbeats 1000000
namespace G33
open PySem PySem.Spec PyProof.Rows L2
abbrev atD (d : Addr) (o : Obj) : HO := .ext fun h => h.get? d = some o
def JtK (d : Addr) (o : Obj) (xs : List (Pr × Addr × V)) : It :=
  ⟨fun i H => H d = some (atD d o) ∧ i < xs.length, fun i H x H' => H' = H ∧ ∃ y, xs[i]? = some y ∧ x = .ref y.2.1, fun i H => H d = some (atD d o) ∧ xs.length ≤ i⟩
def JtI (d : Addr) (o : Obj) (xs : List (Pr × Addr × V)) : It :=
  ⟨fun i H => H d = some (atD d o) ∧ i < xs.length, fun i H x H' => ∃ T y, xs[i]? = some y ∧ x = .ref T ∧ H T = none ∧ H' = upd H T (.tup [.ref y.2.1, y.2.2]), fun i H => H d = some (atD d o) ∧ xs.length ≤ i⟩
section
variable {P : Program} {w : World} {K : PySem.W.Frag} {tg : Expr} {d : Addr} {o : Obj} {es : Array DictEntry} {ep : Nat} {xs : List (Pr × Addr × V)}
theorem inv_at {X : Cx} {pins : List (Addr × Obj)} {σ : L2.St} {H : Hp} {s : Shared} (I : Inv X pins σ H s) (h : H d = some (atD d o)) : s.heap.get? d = some o :=
  (show ObjOk X.prog X.w H s.heap d (atD d o) from I.hok d _ h).1
theorem turn_tabK {w0 : World} (TO : TabO w0 o es ep xs) (it : Addr) : Turn P w K tg (JtK d o xs) [it] it (fun i h => h.IsKeyIter it d i es.size ep) where
  mem := by simp
  obj := fun i h st b hb => by
    have e : b = it := by simpa using hb
    subst e
    obtain ⟨oi, e, c, dd⟩ := st
    exact ⟨oi, e, fun v z => by rw [dd] at z; cases z⟩
  keep := fun i h h' st k => st.at fun oi e => k it (by simp) oi e
  item := by
    intro X hP hw hK hc i pins s σ H E I hf st hg
    subst hP hw hK
    obtain ⟨hd, hi⟩ := hg
    obtain ⟨f0, f1, f2, f3, f4, f5⟩ := hf it (by simp)
    have hgd := inv_at I hd
    obtain ⟨e, he, r1, r2, r3⟩ : ∃ e, es[i]? = some e ∧ e.hash = (nk (xs[i]).1).hash w0 ∧ e.key = .ref (xs[i]).2.1 ∧ RelV (xs[i]).2.2 e.val := by
      obtain ⟨e, h1, h2⟩ := paired_get TO.rel (show xs[i]? = some xs[i] from List.getElem?_eq_getElem hi)
      exact ⟨e, by rw [← Array.getElem?_toList]; exact h1, h2⟩
    refine next_key_item st hgd TO.data rfl he fun h' st' sb => ?_
    have I1 : Inv X pins σ H { s with heap := h' } := I.turned (t' := s.toks) (fun b ob hb e => (sb.2 b hb).trans e) f0 f1 f3 f4 f5
    obtain ⟨oi, e', c, dd⟩ := id st'
    exact ⟨e.key, rfl, go_of (s := { s with heap := h' }) e' c dd (by decide) ⟨.ref (xs[i]).2.1, H, I1, by rw [r2]; rfl, ⟨rfl, _, List.getElem?_eq_getElem hi, rfl⟩, st', fun b hb => (hf b hb).1⟩⟩
  done := by
    intro X hP hw hK hc i pins s σ H E I hf st hg
    subst hP hw hK
    obtain ⟨hd, hi⟩ := hg
    obtain ⟨f0, f1, f2, f3, f4, f5⟩ := hf it (by simp)
    have hl : es.size = xs.length := by rw [← Array.length_toList]; exact (Paired.length TO.rel).symm
    exact next_key_end (I.ok.hd hc) st (inv_at I hd) TO.data rfl (by omega) fun h' eb => ⟨rfl, I.turned (t' := s.toks) (fun b ob hb e => eb b ob hb e) f0 f1 f3 f4 f5⟩
  self := fun A i s Q E st h => wpAny_pyIter_keyiter st h
theorem turn_tabI {w0 : World} {elts : List Expr} {kk : Nat} {tpos : Pos} (TO : TabO w0 o es ep xs) (it : Addr) : Turn P w K (.Tuple elts kk tpos) (JtI d o xs) [it] it (fun i h => ∃ ok ov, IsItemIter h it d i es.size ep ok ov) where
  mem := by simp
  obj := fun i h st b hb => by
    have e : b = it := by simpa using hb
    subst e
    obtain ⟨ok, ov, e⟩ := st
    exact ⟨_, e, fun v z => nomatch z⟩
  keep := fun i h h' st k => let ⟨ok, ov, e⟩ := st; ⟨ok, ov, k it (by simp) _ e⟩
  item := by
    intro X hP hw hK hc i pins s σ H E I hf st hg
    subst hP hw hK
    obtain ⟨hd, hi⟩ := hg
    have hgd := inv_at I hd
    have hl : es.size = xs.length := by rw [← Array.length_toList]; exact (Paired.length TO.rel).symm
    have hie : i < es.size := by omega
    obtain ⟨r2, r3⟩ : es[i].key = .ref (xs[i]).2.1 ∧ RelV (xs[i]).2.2 es[i].val := by
      obtain ⟨e, h1, h2⟩ := paired_get TO.rel (show xs[i]? = some xs[i] from List.getElem?_eq_getElem hi)
      have : es[i]? = some e := by rw [← Array.getElem?_toList]; exact h1
      rw [Array.getElem?_eq_getElem hie] at this
      rw [Option.some.inj this]
      exact h2.2
    obtain ⟨ok, ov, he⟩ := st
    have hlt : it < s.heap.objs.size := Heap.lt_size he
    refine wpAny_pyNext_items_item_raw he ⟨o, hgd, TO.exact, TO.data⟩ hie fun h' ho hT hz hk => ?_
    refine ⟨_, rfl, wpAny_letOwnedTupleGo_items (s := { s with heap := h' }) ho fun h'' he' sb => ?_⟩
    have hT2 : h''.get? s.heap.objs.size = some { cls := .type "tuple", data := .seq #[es[i].key, es[i].val] } := (sb.2 _ (Nat.ne_of_gt hlt)).trans hT
    have new : ObjOk X.prog X.w (upd H s.heap.objs.size (.tup [.ref (xs[i]).2.1, (xs[i]).2.2])) h'' s.heap.objs.size (.tup [.ref (xs[i]).2.1, (xs[i]).2.2]) :=
      ⟨by show 2 ≤ sizeLine; decide, [es[i].key, es[i].val], .cons (by rw [r2]; rfl) (.cons r3 .nil), ⟨_, hT2, rfl, _, rfl⟩⟩
    have I1 : Inv X pins σ (upd H s.heap.objs.size (.tup [.ref (xs[i]).2.1, (xs[i]).2.2])) { s with heap := h'' } :=
      I.turnedNew (t' := s.toks) (ch := [it]) (fun b ob hb e => (sb.2 b (by simpa using hb)).trans (hk b ob (by simpa using hb) e)) hf (Nat.le_refl _) new
    refine ⟨.ref s.heap.objs.size, _, I1, rfl, ⟨_, _, List.getElem?_eq_getElem hi, rfl, I.hok.fresh (Nat.le_refl _), rfl⟩, ⟨es[i].key, es[i].val, he'⟩, fun b hb => ?_⟩
    have e : b = it := by simpa using hb
    rw [e, upd_ne (Nat.ne_of_lt hlt)]
    exact (hf it (by simp)).1
  done := by
    intro X hP hw hK hc i pins s σ H E I hf st hg
    subst hP hw hK
    obtain ⟨hd, hi⟩ := hg
    obtain ⟨f0, f1, f2, f3, f4, f5⟩ := hf it (by simp)
    have hl : es.size = xs.length := by rw [← Array.length_toList]; exact (Paired.length TO.rel).symm
    obtain ⟨ok, ov, he⟩ := st
    exact wpAny_pyNext_items_end_raw (I.ok.hd hc) he ⟨o, inv_at I hd, TO.exact, TO.data⟩ (by omega) fun h' eb => ⟨rfl, I.turned (t' := s.toks) (fun b ob hb e => eb b ob hb e) f0 f1 f3 f4 f5⟩
  self := fun A i s Q E st h => let ⟨_, _, e⟩ := st; wpAny_pyIter_itemiter e h
end
section
variable {X : Cx} {ds : Ds} {kvs : List (Pr × PyData)} {tg e : Expr} {apos cpos pp pos : Pos}
theorem wk_tabK {K : PySem.W.Frag} {d : Addr} {o : Obj} {xs : List (Pr × Addr × V)} {H : Hp} (hd : H d = some (atD d o)) (TE : TabE K H kvs xs) : WkD K (JtK d o xs) H (kvs.map fun p => p.1.enc) := fun H1 e1 => by
  have hl : kvs.length = xs.length := Paired.length TE
  refine ⟨fun i x hx => ?_, e1 _ _ hd, by rw [List.length_map]; omega⟩
  rw [List.getElem?_map] at hx
  cases q : kvs[i]? with
  | none => rw [q] at hx; cases hx
  | some p =>
    rw [q] at hx
    cases hx
    obtain ⟨y, hy, r1, r2, r3⟩ := paired_get TE q
    refine ⟨⟨e1 _ _ hd, (List.getElem?_eq_some_iff.mp hy).1⟩, fun u H2 z => ?_⟩
    obtain ⟨rfl, y', hy', rfl⟩ := z
    rw [hy] at hy'
    cases hy'
    exact ⟨Evl.Ex.refl _, r2.up e1⟩
theorem wk_tabI {K : PySem.W.Frag} {d : Addr} {o : Obj} {xs : List (Pr × Addr × V)} {H : Hp} (hd : H d = some (atD d o)) (TE : TabE K H kvs xs) : WkD K (JtI d o xs) H (kvs.map fun p => .tuple [p.1.enc, p.2]) := fun H1 e1 => by
  have hl : kvs.length = xs.length := Paired.length TE
  refine ⟨fun i x hx => ?_, e1 _ _ hd, by rw [List.length_map]; omega⟩
  rw [List.getElem?_map] at hx
  cases q : kvs[i]? with
  | none => rw [q] at hx; cases hx
  | some p =>
    rw [q] at hx
    cases hx
    obtain ⟨y, hy, r1, r2, r3⟩ := paired_get TE q
    refine ⟨⟨e1 _ _ hd, (List.getElem?_eq_some_iff.mp hy).1⟩, fun u H2 z => ?_⟩
    obtain ⟨T, y', hy', rfl, hT, rfl⟩ := z
    rw [hy] at hy'
    cases hy'
    exact dp_pair hT (r2.up e1) (r3.up e1)
/-- for k in d -/
theorem wd_tabK (he : PE X e (teH X.w X.K ds (dictD kvs))) : PI X tg e (wiD X.w X.K ds (kvs.map fun p => p.1.enc)) := by
  refine ⟨fun pins s σ H R I h => ?_⟩
  refine thn (he.run pins s σ H (fun v H1 => ∃ d, v = .ref d ∧ Ex H H1 ∧ Tab X.w X.K H1 d kvs) I ⟨h.1, fun v H' x dv => let ⟨d, a, T⟩ := dv.tab; ⟨d, a, x, T⟩⟩) fun u s1 ⟨v, H1, I1, rv, d, ev, e1, T⟩ => ?_
  subst ev
  obtain rfl : u = Value.ref d := rv
  obtain ⟨o, es, ep, xs, hd, TO, TE⟩ := T.ex
  have hgd := inv_at I1 hd
  exact iter_keys T.sys hgd TO.exact TO.data (pi_one (tk := s1.toks) I1 _ (turn_tabK TO _) ⟨_, Heap.get?_push_size _ rfl, rfl, rfl⟩ (h.2 _ H1 e1 (wk_tabK hd TE)))
/-- for k, v in d.items() -/
theorem wd_tabI {elts : List Expr} {kk : Nat} {tpos : Pos} (he : PE X e (teH X.w X.K ds (dictD kvs))) (hbase : attributeBase e "items" X.env (eval e X.env) = eval e X.env := by rfl) (hline : (apos.endLine == cpos.line) = true := by rfl) :
    PI X (.Tuple elts kk tpos) (.Call (.Attribute e "items" apos) [] [] cpos) (wiD X.w X.K ds (kvs.map fun p => .tuple [p.1.enc, p.2])) := by
  refine ⟨fun pins s σ H R I h => ?_⟩
  refine wpAny_Call_method (T := "dict") (id := "dict.items") hbase rfl hline F.plainAttrs_dict F.slot_dict_items F.type_dict_items (thn (he.run pins s σ H (fun v H1 => ∃ d, v = .ref d ∧ Ex H H1 ∧ Tab X.w X.K H1 d kvs) I ⟨h.1, fun v H' x dv => let ⟨d, a, T⟩ := dv.tab; ⟨d, a, x, T⟩⟩) fun u s1 ⟨v, H1, I1, rv, d, ev, e1, T⟩ => ?_)
  subst ev
  obtain rfl : u = Value.ref d := rv
  obtain ⟨o, es, ep, xs, hd, TO, TE⟩ := T.ex
  have hgd := inv_at I1 hd
  have hraw : s1.heap.DictRaw d es ep := ⟨o, hgd, TO.exact, TO.data⟩
  refine ⟨hraw.typeIs, fun b eb => by cases eb; exact ⟨o, hgd, TO.exact.2.1⟩, ?_⟩
  have I2 : Inv X pins σ H1 { s1 with heap := s1.heap.push { cls := .type "dict_items", data := .fields #[.ref d] } } := I1.kept (t' := s1.toks) fun b ob q => Heap.get?_push_of_some _ q
  have fin : wpAny (model X.prog X.w) X.A (pyIter (.ref s1.heap.objs.size)) (PIE X pins σ (.Tuple elts kk tpos) R) X.xe { s1 with heap := s1.heap.push { cls := .type "dict_items", data := .fields #[.ref d] } } := by
    refine wpAny_pyIter_items_raw (d := d) ⟨_, Heap.get?_push_size _ rfl, rfl, rfl⟩ (hraw.at fun ob q => Heap.get?_push_of_some _ q) (pi_one (tk := s1.toks) I2 _ (turn_tabI TO _) ⟨.none, .none, ?_⟩ (h.2 _ H1 e1 (wk_tabI hd TE)))
    exact Heap.get?_push_size _ rfl
  show wpAny _ _ (callWith cpos (.builtin "dict.items") [.ref d] [] []) _ X.xe s1
  exact method_meetsIn F.slot_dict_items F.entry_dict_items rfl (PySem.evalArgs_none ⟨rfl, hraw.typeIs, F.args_dict_items_1 _, _, meets_dict_items_raw d T.sys, ⟨es, ep, hraw⟩, fin⟩)
end
end G33
set_option Elab.async false
set_option linter.all false
set_option maxRecDepth 100000
set_option maxHeartbeats 1000000
namespace G33
open PySem PySem.Spec PyProof.Rows L2
/-! ### {k: v for x in ..} with pair states for keys -/
/-- D[k] = v, k new, inside a block -/
theorem dset_tab {X : Cx} {pins : List (Addr × Obj)} {σ : L2.St} {H : Hp} {s : Shared} {E : Value → Shared → Prop} {D : Addr} {kvs : List (Pr × PyData)} {p : Pr} {d : PyData} {y z : V} {u r : Value} {Q : Unit → Shared → Prop} (hu : X.A.units + 64 < cLine) (I : Inv X pins σ H s) (T : Tab X.w X.K H D kvs) (dy : Dp X.K H y p.enc) (dz : Dp X.K H z d)
    (ry : RelV y u) (rz : RelV z r) (hnew : inK kvs p = false) (hp : pure d = true) (hpk : pureKV kvs) (hl : kvs.length < 100000) (h : ∀ s' H', Inv X pins σ H' s' → AtExt D H H' → Tab X.w X.K H' D (kvs ++ [(p, d)]) → Q () s') : wpAny (model X.prog X.w) X.A (dictSet D u r) Q E s := by
  obtain ⟨b, rfl⟩ := dp_ref dy
  obtain rfl : u = Value.ref b := ry
  obtain ⟨ys, D3, r3⟩ := tab_of I T
  have hz : ys.length ≤ sizeLine := by
    have h1 := T.len
    have h2 : kvs.length = ys.length := Paired.length r3
    rw [sizeLine_eq]; omega
  have hat : atKey ys (nk p) = none := by
    have := at_some r3 p
    rw [hnew] at this
    exact Option.not_isSome_iff_eq_none.mp (by rw [this]; exact Bool.false_ne_true)
  obtain ⟨o1, es1, ep1, xs1, g1, g2, g3⟩ := T.ex
  refine wpAny_dictSet_heap (hsz := hz) (room8' hu) (key_is I dy) D3 fun h' D' hs' => ?_
  rw [storedH_new hat] at D'
  have xT : ∀ o, ExT H (upd H D (.ext fun h => h.get? D = some o)) := fun o => ExT.put g1 (fun _ e => nomatch e) (fun _ _ e => nomatch e)
  obtain ⟨o2, ok, T'⟩ := tab_new (kvs := kvs ++ [(p, d)]) (K := X.K) (w := X.w) (H' := H) (by rw [List.length_append]; exact hl) (by
      rw [List.map_append, List.nodup_append]
      refine ⟨T.nd, by simp, fun x hx y hy e => ?_⟩
      simp only [List.map_cons, List.map_nil, List.mem_singleton] at hy
      subst hy e
      obtain ⟨q, hq, rfl⟩ := List.mem_map.mp hx
      have : inK kvs q.1 = true := by
        unfold inK
        rw [List.lookup_isSome_iff]
        exact ⟨q, hq, by simp⟩
      rw [this] at hnew
      cases hnew) T.sys D' fun o => Paired.snoc (paired_mem r3 fun a ha b ⟨q1, q2, v', q3, q4⟩ => ⟨q1, q2.upT (pure_pr _) (xT o), v', q3, q4.upT (hpk a ha) (xT o)⟩) ⟨rfl, dy.upT (pure_pr _) (xT o), z, rz, dz.upT hp (xT o)⟩
  have I' := d_write (t' := s.toks + (nestedKind X.prog X.w).draws (nk p)) (ob := .ext fun h => h.get? D = some o2) I (by rw [g1]; exact True.intro) hs' (let ⟨q, _, _, hq, _⟩ := D'; ⟨q, hq⟩) ok
  exact h _ _ I' ⟨⟨_, g1⟩, fun b hb => upd_ne hb⟩ T'
section
variable {X : Cx} {ds : Ds} {kx vx iter : Expr} {scope : Scope} {pos p1 : Pos} {x : Str}
theorem ph_dcT (j : Nat) (items : List Pr) (gq : Pr → PyData) (hu : X.A.units + 64 < cLine) (hc : X.calm = true) (hN : X.N.Nodup) (hi : PI X (.Name x p1) iter (wiD X.w X.K ds (items.map Pr.enc))) (ok : BlkOk X.N X.env.scope scope [(x, j)])
    (hg : ∀ s H C cl fp, PG (BX X scope s H C cl fp) (.Name x p1) (gName j)) (hnd : items.Nodup) (hz : items.length ≤ 100000) (hp : ∀ p ∈ items, pure (gq p) = true)
    (hk : ∀ p ∈ items, ∀ s H C cl fp, PE (BX X scope s H C cl fp) kx (teD X.w X.K (ds.set j (some p.enc)) p.enc)) (hv : ∀ p ∈ items, ∀ s H C cl fp, PE (BX X scope s H C cl fp) vx (teD X.w X.K (ds.set j (some p.enc)) (gq p)))
    (hs : ∀ z, foldedSetIterable iter X.env z = Pure.pure z := by intro _; rfl) : PE X (.DictComp kx vx [⟨.Name x p1, iter, [], 0⟩] scope pos) (teH X.w X.K ds (dictD (items.map fun p => (p, gq p)))) := by
  have hpk : ∀ i, pureKV ((items.take i).map fun p => (p, gq p)) := fun i q hq => by
    obtain ⟨p, hp', rfl⟩ := List.mem_map.mp hq
    exact hp p (List.mem_of_mem_take hp')
  refine ⟨fun pins s σ H Q I h => ?_⟩
  rw [arm_eval_DictComp]
  have hfr : ∀ y ∈ scope.names, y.2 = .free → ∃ c, X.env.cells.lookup y.1 = some c := fun y hy e => (ok.free y hy e).elim (fun k => I.ok.has _ (.inl k)) fun k => I.ok.has _ (.inr k)
  refine wpAny_comprehension_free (use := none) rfl hs (closure_ok hfr) ok.kind (fun y hy e => by rw [ok.uniq y hy, e])
    (thn (hi.run pins s σ H (fun J H1 => Ex H H1 ∧ WkD X.K J H1 (items.map Pr.enc)) I ⟨h.1, fun J H1 e1 wk => ⟨e1, wk⟩⟩) fun xv s1 hx => thn hx fun itv s2 h2 => ?_)
  obtain ⟨it, fp, tn, J, H2, rfl, I2, T, st2, f2, e2, wk⟩ := h2
  refine wpAny_newObj_type (newEnv_comp ?_)
  generalize hD : s2.heap.objs.size = D
  have hDn : H2 D = none := I2.hok.fresh (Nat.le_of_eq hD)
  have hsys : (D == sysModules) = false := by rw [← hD]; exact beq_eq_false_iff_ne.mpr (Ne.symm (Nat.ne_of_lt I2.big))
  have D0 : (s2.heap.push { cls := .type "dict", data := .dict #[] }).DictOfH (nestedKind X.prog X.w) D [] := by rw [← hD]; exact Heap.DictOfH.new s2.heap
  obtain ⟨o0, ok0, T0⟩ := tab_new (kvs := []) (K := X.K) (w := X.w) (H' := H2) (Nat.zero_le _) (by simp) hsys D0 (fun _ => .nil)
  generalize hs3 : ({ s2 with heap := s2.heap.push { cls := .type "dict", data := .dict #[] } } : Shared) = s3
  have I3 : Inv X pins σ (upd H2 D (.ext fun h => h.get? D = some o0)) s3 := by
    rw [← hs3]
    exact I2.laid (t' := s2.toks) (fun b o e => Heap.get?_push_of_some _ e) (Nat.le_of_eq hD) ok0
  have e3 : Ex H2 (upd H2 D (.ext fun h => h.get? D = some o0)) := Evl.Ex.new hDn
  have h3 : s3.heap = s2.heap.push { cls := .type "dict", data := .dict #[] } := by rw [← hs3]
  have small : ∀ b ∈ fp, b < s2.heap.objs.size := fun b hb => let ⟨o, e, _⟩ := T.obj _ _ st2 b hb; Heap.lt_size e
  have f3 : ∀ b ∈ fp, FpOk X pins (upd H2 D (.ext fun h => h.get? D = some o0)) b ∧ b < s3.heap.objs.size := fun b hb => by
    have hlt := small b hb
    refine ⟨⟨?_, (f2 b hb).2⟩, by rw [h3, Heap.size_push]; exact Nat.lt_succ_of_lt hlt⟩
    exact (upd_ne (by rw [← hD]; exact Nat.ne_of_lt hlt)).trans (f2 b hb).1
  have st3 : tn 0 s3.heap := T.keep _ _ _ st2 fun b _ o e => by rw [h3]; exact Heap.get?_push_of_some _ e
  have I4 := block_start I3 ok hN f3
  generalize hHD : (upd H2 D (.ext fun h => h.get? D = some o0)) = HD at I3 I4 f3 T0 e3
  have pg := hg s3 HD s3.heap.objs.size (cellsFrom (s3.heap.objs.size + 1) scope.names (cloFrom X.env.cells scope.names [])) fp
  have pk := fun p hp => hk p hp s3 HD s3.heap.objs.size (cellsFrom (s3.heap.objs.size + 1) scope.names (cloFrom X.env.cells scope.names [])) fp
  have pv := fun p hp => hv p hp s3 HD s3.heap.objs.size (cellsFrom (s3.heap.objs.size + 1) scope.names (cloFrom X.env.cells scope.names [])) fp
  show codeAny _ _ (.compStart (.DictComp kx vx [⟨.Name x p1, iter, [], 0⟩] scope pos) 0 (.ref it) (.ref D) (compEnvC scope (cellsFrom (s3.heap.objs.size + 1) scope.names (cloFrom X.env.cells scope.names [])) s3.heap.objs.size X.env)) _ { s3 with heap := pushCells (s3.heap.push { cls := .type "dict", data := .dict #[] }) scope.names }
  have nfp : ∀ b ∈ fp, HD b = none := fun b hb => (f3 b hb).1.1
  unfold BX at pg pk pv
  generalize hce : compEnvC scope (cellsFrom (s3.heap.objs.size + 1) scope.names (cloFrom X.env.cells scope.names [])) s3.heap.objs.size X.env = ce at I4 pg pk pv ⊢
  have cL : ce.locals = s3.heap.objs.size := by subst hce; rfl
  generalize hs4 : ({ s3 with heap := pushCells (s3.heap.push { cls := .type "dict", data := .dict #[] }) scope.names } : Shared) = s4 at I4 ⊢
  have st4 : tn 0 s4.heap := T.keep _ _ _ st3 fun b _ o e => by rw [← hs4]; exact pushCells_keeps _ _ _ _ (Heap.get?_push_of_some _ e)
  have stay : ∀ {σ' : L2.St} {H' : Hp} {s' : Shared}, Inv (X.blk s3 HD scope ce fp) [] σ' H' s' → (∀ b ∈ fp, H' b = none) → ∀ b ∈ fp, FpOk (X.blk s3 HD scope ce fp) [] H' b := fun {σ' H' s'} I' hn b hb =>
    ⟨hn b hb, (I'.ok.exf b hb).1, I'.ok.exfs b hb, .inl hb, fun x c e => (I'.ok.exf b hb).2 x c e, fun p hp => absurd (show p ∈ ([] : List (Addr × Obj)) ++ [] from hp) (by simp)⟩
  have Lw : Lc X.w X.K HD (L2.wipe σ [j]) (wipeD ds [j]) := ((h.1.up e2).up e3).wipe [j]
  suffices loop : codeAny (model X.prog X.w) X.A (.compLoop (.DictComp kx vx [⟨.Name x p1, iter, [], 0⟩] scope pos) 0 (.ref it) (.ref D) ce) (compPost (model X.prog X.w) X.A X.xe none (EP X pins σ Q) (.ref D) s3.heap.objs.size) s4 from codeAny_compStart_dict loop (T.self X.A 0 _ _ _ st4 loop)
  refine compLoop_anyD (fun m s' => ∃ i H', m = items.length - i ∧ Inv (X.blk s3 HD scope ce fp) [] (L2.wipe σ [j]) H' s' ∧ tn i s'.heap ∧ (∀ b ∈ fp, H' b = none) ∧ i ≤ items.length ∧ Ex H2 H' ∧ Tab X.w X.K H' D ((items.take i).map fun p => (p, gq p))) ?_ items.length ⟨0, HD, rfl, I4, st4, nfp, Nat.zero_le _, e3, T0⟩
  rintro m s5 ⟨i, H5, rfl, I5, st5, n5, hi5, e5, T5⟩
  obtain ⟨wg, ws⟩ := wk H5 e5
  by_cases hlt : i < items.length
  · have hit : items[i]? = some items[i] := List.getElem?_eq_getElem hlt
    have hmem : items[i] ∈ items := List.getElem_mem hlt
    obtain ⟨go, yl⟩ := wg i (items[i]).enc (by rw [List.getElem?_map, hit]; rfl)
    refine thnF (T.item (X.blk s3 HD scope ce fp) rfl rfl rfl hc i [] s5 _ H5 (fun _ _ => False) I5 (stay I5 n5) st5 go) fun r s6 ⟨u, hr, h6⟩ => ?_
    subst hr
    refine thnF h6 fun _ s7 ⟨xv, H7, I7, r7, y7, st7, n7⟩ => ?_
    obtain ⟨e7, d7⟩ := yl xv H7 y7
    have I7' := I7.pinned (stay I7 n7) (T.obj _ _ st7)
    have L7 : Lc X.w X.K H7 (L2.wipe σ [j]) (wipeD ds [j]) := ((h.1.up e2).up (e5.trans e7)).wipe [j]
    refine thnF (pg.run _ s7 _ H7 xv u (fun σ8 H8 => H8 = H7 ∧ L2.wipe σ8 [j] = L2.wipe σ [j] ∧ Lc X.w X.K H7 σ8 (ds.set j (some (items[i]).enc))) I7' r7 (g1_D L7 d7 fun σ8 w8 L8 => ⟨rfl, w8, L8⟩)) fun _ s8 ⟨σ8, H8, I8, q8⟩ => ?_
    obtain ⟨rfl, hw8, L8⟩ := q8
    refine thnF ((ptd_nil (X := X.blk s3 HD scope ce fp) (ds := ds.set j (some (items[i]).enc))).run _ s8 σ8 H8 (fun b H9 => b = true ∧ Ex H8 H9) I8 ⟨L8, fun H9 e9 => ⟨rfl, e9⟩⟩) fun b s9 ⟨H9, I9, q9⟩ => ?_
    obtain ⟨rfl, e9⟩ := q9
    simp only [if_true]
    refine thnF ((pk _ hmem).run _ s9 σ8 H9 (fun y H10 => Ex H9 H10 ∧ Dp X.K H10 y (items[i]).enc) I9 ⟨L8.up e9, fun v H' a b => ⟨a, b⟩⟩) fun zk s10 ⟨yk, H10, I10, r10, e10, d10⟩ => ?_
    refine thnF ((pv _ hmem).run _ s10 σ8 H10 (fun y H11 => Ex H10 H11 ∧ Dp X.K H11 y (gq items[i])) I10 ⟨(L8.up e9).up e10, fun v H' a b => ⟨a, b⟩⟩) fun zv s11 ⟨yv, H11, I11, r11, e11, d11⟩ => ?_
    have eAll := ((e7.trans e9).trans e10).trans e11
    have T11 := T5.up eAll
    have hnew : inK ((items.take i).map fun p => (p, gq p)) items[i] = false := by
      cases hq : inK ((items.take i).map fun p => (p, gq p)) items[i] with
      | false => rfl
      | true =>
        unfold inK at hq
        rw [List.lookup_isSome_iff] at hq
        obtain ⟨q, hq1, hq2⟩ := hq
        obtain ⟨p, hp1, rfl⟩ := List.mem_map.mp hq1
        have hp2 : items[i] = p := by simpa using hq2
        obtain ⟨k, hk1, hk2⟩ := List.mem_iff_getElem.mp hp1
        rw [List.length_take] at hk1
        rw [List.getElem_take] at hk2
        have := (List.getElem_inj hnd).mp (hk2.trans hp2.symm)
        omega
    refine dset_tab (X := X.blk s3 HD scope ce fp) hu I11 T11 (d10.up e11) d11 r10 r11 hnew (hp _ hmem) (hpk i) (by rw [List.length_map, List.length_take]; omega) fun s12 H12 I12 ae T12 => ?_
    have pin' : ∀ b ∈ fp, ∀ o, s7.heap.get? b = some o → s12.heap.get? b = some o ∧ H12 b = none := fun b hb o e =>
      let z := I12.pin (b, o) (List.mem_append_right _ (List.mem_append_right _ (mem_pinsAt hb e)))
      ⟨z.1, z.2.1⟩
    have hl : (L2.wipe σ [j]).length = σ8.length := by rw [← hw8, wipe_length]
    refine ⟨items.length - (i + 1), by omega, i + 1, H12, rfl, (I12.unpinned (pins := [])).weak hl (fun k v e => ?_), T.keep _ _ _ st7 fun b hb o e => (pin' b hb o e).1, fun b hb => ?_, hlt, ?_, ?_⟩
    · rw [← hw8] at e
      exact (wipe_some e).1
    · obtain ⟨o, e, _⟩ := T.obj _ _ st7 b hb
      exact (pin' b hb o e).2
    · refine fun b u hb => ?_
      have ne : b ≠ D := by
        rintro rfl
        rw [hDn] at hb
        cases hb
      rw [ae.but b ne]
      exact eAll b u (e5 b u hb)
    · rw [List.take_add_one, hit, List.map_append]
      exact T12
  · have ei : i = items.length := by omega
    subst ei
    rw [List.take_length] at T5
    rw [List.length_map] at ws
    refine thnF (T.done (X.blk s3 HD scope ce fp) rfl rfl rfl hc _ [] s5 _ H5 (fun _ _ => False) I5 (stay I5 n5) st5 ws) fun r s6 ⟨hr, I6⟩ => ?_
    subst hr
    have I7 : Inv X pins σ H5 s6 := I3.call' (ch := fp) I6.os I6.base I6.hok I6.bare fun b hb => ⟨(f3 b hb).1.2.2.2.1, (f3 b hb).1.2.1, (f3 b hb).1.2.2.2.2.1, (f3 b hb).1.2.2.2.2.2⟩
    have nC : H5 s3.heap.objs.size = none := by
      have z : H5 ce.locals = none := I6.free
      rw [cL] at z
      exact z
    obtain ⟨mm, hn, _⟩ := I6.loc
    have hn : s6.heap.Ns ce.locals mm := hn
    rw [cL] at hn
    refine ⟨mm, hn, fun h'' sb => ?_⟩
    obtain ⟨f0, f1, f2', f3', f4, f5⟩ := I3.fpOk (Nat.le_refl _) nC
    exact ⟨.ref D, H5, I7.turned (t' := s6.toks) (fun b o hb e => (sb.2 b hb).trans e) f0 f1 f3' f4 f5, rfl, h.2 _ H5 (e2.trans e5) (.inr ⟨_, D, rfl, rfl, T5⟩)⟩
end
end G33
set_option Elab.async false
set_option linter.all false
set_option maxRecDepth 100000
set_option maxHeartbeats 1000000
namespace G33
open PySem PySem.Spec PyProof.Rows L2
/-! ### list(d), sorted(pair states), < of pair states -/
def dLt (p q : Pr) : Bool := PySem.W.dataLt p.enc q.enc
def prLe (p q : Pr) : Bool := PySem.W.dataLe false Pr.enc p q
theorem alike_encL (a b : List Int) : PySem.W.alike (encL a) (encL b) = true := by
  show PySem.W.alike (.tuple _) (.tuple _) = true
  rw [PySem.W.alike]
  exact PySem.W.alike_ints a b
theorem alike_int (a b : Int) : PySem.W.alike (.int a) (.int b) = true := by rw [PySem.W.alike]
theorem alike_pr (p q : Pr) : PySem.W.alike p.enc q.enc = true := by
  rw [PySem.W.alike]
  simp only [PySem.W.alikeAll, alike_encL, alike_int, Bool.and_self]
theorem each_of {X : Cx} {pins : List (Addr × Obj)} {σ : L2.St} {H : Hp} {s : Shared} (I : Inv X pins σ H s) : ∀ {ps : List Pr} {vs : List V} {us : List Value}, DpAll X.K H vs (ps.map Pr.enc) → Vals vs us →
    PySem.W.EachIs (fun u p => (∃ v, RelV v u ∧ Dp X.K H v p.enc)) us ps ∧ PySem.W.EachIs (fun u p => ∃ as, Reads s.heap u p.enc as) us ps
  | [], _, _, h, r => by
    cases h
    cases r
    exact ⟨.nil, .nil⟩
  | p :: ps, _, _, h, r => by
    cases h with
    | cons h1 h2 =>
      cases r with
      | cons r1 r2 =>
        obtain ⟨a, b⟩ := each_of I h2 r2
        exact ⟨.cons ⟨_, r1, h1⟩ a, .cons (Dp.reads I _ _ _ h1 r1) b⟩
theorem vals_each {K : PySem.W.Frag} {H : Hp} : ∀ {ps : List Pr} {us : List Value}, PySem.W.EachIs (fun u p => (∃ v, RelV v u ∧ Dp K H v p.enc)) us ps → ∃ vs, Vals vs us ∧ DpAll K H vs (ps.map Pr.enc)
  | [], _, h => by cases h; exact ⟨[], .nil, .nil⟩
  | p :: ps, _, h => by
    cases h with
    | cons h1 h2 =>
      obtain ⟨vs, a, b⟩ := vals_each h2
      obtain ⟨v, r, d⟩ := h1
      exact ⟨v :: vs, .cons r a, .cons d b⟩
def rSortPr (K : PySem.W.Frag) : List V → Hp → VK → Prop := fun vs H Q => ∃ (a : Addr) (ps : List Pr) (xs : List V), vs = [V.ref a] ∧ SqL K H a xs ∧ DpAll K H xs (ps.map Pr.enc) ∧ ps.length ≤ 100000 ∧ ∀ p ys H', Ex H H' → H p = none → H' p = some (.lst ys) → DpAll K H' ys ((ps.mergeSort prLe).map Pr.enc) → Q (.ref p) H'
theorem cr_sortPr {X : Cx} (hu : X.A.units + 64 < cLine) : CallR X (.builtin "sorted") (rSortPr X.K) := by
  intro pins s σ H vs us Q I r h
  obtain ⟨a, ps, xs, rfl, hs, hd, hn, q⟩ := h
  obtain ⟨its, rv, hl, hz⟩ := I.list hs
  rw [Vals.ref1 r]
  obtain ⟨e1, e2⟩ := each_of I hd rv
  refine PySem.W.sorted_data (enc := Pr.enc) (bs := ps) hl.isList e1 e2 (PySem.W.AllAlike.of alike_pr) (PySem.W.Sortable.tuples fun p => ⟨_, _, rfl⟩) (Evl.sz_of hn) (fun p _ => ?_) fun out ho eo => ?_
  · have := (shp_pr p (n := 0)).dep
    omega
  · obtain ⟨ys, ry, dy⟩ := vals_each eo
    obtain ⟨ep, he'⟩ := PyProof.Rows.sortedAll_at s.heap its out.toArray
    have hnone : H (s.heap.objs.size + 1) = none := I.hok.fresh (Nat.le_succ _)
    have hlen : ys.length ≤ sizeLine := by
      rw [dpa_len dy, List.length_map, List.length_mergeSort]
      exact Evl.sz_of hn
    exact ⟨.ref _, upd H (s.heap.objs.size + 1) (.lst ys), I.laid (t' := s.toks) (fun _ _ => PyProof.Rows.sortedAll_old) (Nat.le_succ _) ⟨hlen, out, ep, ry, he'⟩, rfl, q _ ys _ (Evl.Ex.new hnone) hnone upd_same (dy.up (Evl.Ex.new hnone))⟩
def rLtPr (K : PySem.W.Frag) : R2 := fun x y H Q => ∃ p q : Pr, Dp K H x p.enc ∧ Dp K H y q.enc ∧ Q (.bl (dLt p q)) H
theorem op_ltPr {X : Cx} (hu : X.A.units + 64 < cLine) : OpR X (compareOp .Lt) (rLtPr X.K) := by
  intro pins s σ H x y v u Q I rx ry h
  obtain ⟨p, q, d1, d2, k⟩ := h
  obtain ⟨as, r1⟩ := Dp.reads I _ _ _ d1 rx
  obtain ⟨bs, r2⟩ := Dp.reads I _ _ _ d2 ry
  have hd := (shp_pr p (n := 0)).dep
  exact PySem.W.rcLt_alike p.enc q.enc X.A s v u as bs r1 r2 (alike_pr p q) (fun z => nomatch z) (by have : min p.enc.depth q.enc.depth ≤ p.enc.depth := Nat.min_le_left _ _; omega) X.prog X.w X.xe _ ⟨.bl _, H, I, rfl, k⟩
section
variable {X : Cx} {ds : Ds} {kvs : List (Pr × PyData)} {ps : List Pr} {p q : Pr} {a b e : Expr} {pp pos : Pos}
theorem po_sortPr (hu : X.A.units + 64 < cLine) (hm : X.mg "sorted" = none) (hn : ps.length ≤ 100000) (ha : PE X e (teD X.w X.K ds (.list (ps.map Pr.enc)))) (hg : Gl X "sorted" := by rfl) (he : starEach [e] X.env = (false, eval e X.env) :: starEach [] X.env := by rfl) :
    PE X (.Call (.Name "sorted" pp) [e] [] pos) (teO X.w X.K ds (oN X.K ((ps.mergeSort prLe).map Pr.enc))) :=
  pe_imp (pe_callB (cr_sortPr hu) hg hm (by decide +kernel) (pa_cons ha pa_nil he) (by decide) (by decide) he (by rfl)) fun σ H Q qq => ⟨qq.1, fun v H1 e1 h1 => by
    cases h1 with
    | lst hs hd => exact ⟨_, ps, _, rfl, hs, hd, hn, fun p ys H' x n1 n2 n3 => qq.2 H1 _ _ e1 ⟨x, p, ys, rfl, n1, n2, n3⟩⟩⟩
theorem pd_ltPr (hu : X.A.units + 64 < cLine) (ha : PE X a (teD X.w X.K ds p.enc)) (hb : PE X b (teD X.w X.K ds q.enc)) : PE X (.Compare a [.Lt] [b] pos) (teD X.w X.K ds (.bool (dLt p q))) :=
  pd_cmp (op_ltPr hu) (nomark _) (fun v w H Q h1 h2 g => ⟨p, q, h1, h2, g.now (.bl _)⟩) ha hb
/-- list(d) -/
theorem cr_listTab (hc : X.calm = true) : CallR X (.type "list") (fun vs H Q => ∃ d kvs, vs = [V.ref d] ∧ Tab X.w X.K H d kvs ∧ ∀ p ys H', Ex H H' → H p = none → H' p = some (.lst ys) → DpAll X.K H' ys (kvs.map fun q => q.1.enc) → Q (.ref p) H') := by
  intro pins s σ H vs us Q I r h
  obtain ⟨d, kvs, rfl, T, q⟩ := h
  obtain ⟨u, rfl, rx⟩ := r.one
  cases rx
  obtain ⟨o, es, ep, xs, hd, TO, TE⟩ := T.ex
  have ho := inv_at I hd
  have l1 : xs.length = es.size := by rw [← Array.length_toList]; exact Paired.length TO.rel
  have l2 : kvs.length = xs.length := Paired.length TE
  have l3 := T.len
  refine PySem.W.kdl_call (kdl_raw T.sys TO.exact TO.data) (I.ok.hd hc) ho (by rw [sizeLine_eq]; omega) fun h' tk acc' c' kp e it => ?_
  have ea : acc'.toList = (xs.map fun x => x.2.1).map Value.ref := by
    have hl : acc'.toList.length = xs.length := by rw [Array.length_toList, it.1]; omega
    refine List.ext_getElem? fun j => ?_
    rw [List.getElem?_map, List.getElem?_map]
    cases hj : acc'.toList[j]? with
    | none =>
      have h1 := List.getElem?_eq_none_iff.mp hj
      rw [List.getElem?_eq_none (by omega)]
      rfl
    | some v =>
      obtain ⟨en, hen, hv⟩ := it.2 j v (by rw [← Array.getElem?_toList]; exact hj)
      have hjx : j < xs.length := by
        have := (List.getElem?_eq_some_iff.mp hj).1
        omega
      obtain ⟨en', h1, h2⟩ := paired_get TO.rel (show xs[j]? = some xs[j] from List.getElem?_eq_getElem hjx)
      rw [Array.getElem?_toList, hen] at h1
      cases h1
      rw [List.getElem?_eq_getElem hjx, hv, h2.2.1]
      rfl
  have rv : Vals ((xs.map fun x => x.2.1).map V.ref) acc'.toList := by rw [ea]; exact vals_refs _
  have hnone : H s.heap.objs.size = none := I.hok.fresh (Nat.le_refl _)
  have dd : DpAll X.K H ((xs.map fun x => x.2.1).map V.ref) (kvs.map fun q => q.1.enc) := by
    have : ∀ {kvs : List (Pr × PyData)} {xs : List (Pr × Addr × V)}, TabE X.K H kvs xs → DpAll X.K H ((xs.map fun x => x.2.1).map V.ref) (kvs.map fun q => q.1.enc) := by
      intro kvs
      induction kvs with
      | nil =>
        intro xs t
        cases t
        exact .nil
      | cons p kvs ih =>
        intro xs t
        cases t with
        | cons t1 t2 => exact .cons t1.2.1 (ih t2)
    exact this TE
  refine ⟨.ref s.heap.objs.size, upd H s.heap.objs.size (.lst ((xs.map fun x => x.2.1).map V.ref)), I.laid (t' := tk) kp (Nat.le_refl _) ?_, rfl, q _ _ _ (Evl.Ex.new hnone) hnone upd_same (dd.up (Evl.Ex.new hnone))⟩
  exact ⟨by rw [List.length_map, List.length_map, sizeLine_eq]; omega, acc'.toList, c', rv, by rw [Array.toArray_toList]; exact e⟩
theorem po_listTab (hc : X.calm = true) (hm : X.mg "list" = none) (ha : PE X e (teH X.w X.K ds (dictD kvs))) (hg : Gl X "list" := by rfl) (he : starEach [e] X.env = (false, eval e X.env) :: starEach [] X.env := by rfl) :
    PE X (.Call (.Name "list" pp) [e] [] pos) (teO X.w X.K ds (oN X.K (kvs.map fun q => q.1.enc))) :=
  pe_imp (pe_callTy (cr_listTab hc) hg hm (by decide +kernel) (pa_cons ha pa_nil he) (by decide) (by decide) he (by rfl)) fun σ H Q qq => ⟨qq.1, fun v H1 e1 h1 => by
    obtain ⟨d, rfl, T⟩ := h1.tab
    exact ⟨d, kvs, rfl, T, fun p ys H' x n1 n2 n3 => qq.2 H1 _ _ e1 ⟨x, p, ys, rfl, n1, n2, n3⟩⟩⟩
end
end G33
set_option Elab.async false
set_option linter.all false
set_option maxRecDepth 100000
set_option maxHeartbeats 2000000
namespace G33
open PySem PySem.Spec PyProof.Rows L2
theorem whole_t {l v m : Int} (h : l ≤ v) (h2 : v ≤ m) : (decide (l ≤ v) && decide (v ≤ m)) = true := by simp [h, h2]
theorem all_map {α : Type} (l : List α) (f : α → Bool) : (l.map f).all id = l.all f := by rw [List.all_map]; rfl
def WordOk (h : Hall) : Ru → Bool → Prop
  | .plain w l, _ => LimOk h w l
  | .two _ _ _, _ => True
  | .oust _ f, o => o = true ∧ 0 ≤ f ∧ f ≤ 99
def partsD : Ru → List Int
  | .plain _ _ => []
  | .two _ _ _ => [1, 2]
  | .oust _ _ => [1]
section
variable {P : Program} {w : World} {K : PySem.W.Frag} {mg : Str → Option Value} {base : Heap}
abbrev N_is_whole : List Str := ["value", "least", "most"]
theorem sc_is_whole : FnScope N_is_whole ["value", "least", "most"] (defScope (top 24)) := ⟨rfl, rfl, rfl, by decide +kernel, rfl, by decide +kernel, by decide +kernel⟩
def R_is_whole : List PyData → PyData → Prop := fun dl d => ∃ v l m : Int, dl = [.int v, .int l, .int m] ∧ d = .bool (decide (l ≤ v) && decide (v ≤ m))
theorem ok_is_whole (T : Fx K mg) : OkF P w K mg base 1 "is_whole" ["value", "least", "most"] (spD K 3 R_is_whole) := by
  refine mk_ok T 0 rfl sc_is_whole rfl (fun _ _ _ _ _ _ us hl => match us, hl with | [_, _, _], _ => rfl) fun cdv A outer s H E hr dl d hR _ => ?_
  obtain ⟨value, least, most, rfl, rfl⟩ := hR
  exact
    (sr_ret (pd_and (k := true) (pd_is T.f_isinstance T.f_int bt_int (pd_name 0) ki_int_int) (fun hb => (pd_and (k := true) (pd_not (k := false) (pd_is T.f_isinstance T.f_bool bt_bool (pd_name 0) ki_int_bool)) (fun hb => (pd_one (pd_lele (pd_name 1) (pd_name 0) (pd_name 2))))))))
abbrev N_need_hall : List Str := ["hall", "fare", "one", "other"]
theorem sc_need_hall : FnScope N_need_hall ["hall"] (defScope (top 25)) := ⟨rfl, rfl, rfl, by decide +kernel, rfl, by decide +kernel, by decide +kernel⟩
def R_need_hall : List PyData → PyData → Prop := fun dl d => ∃ h : Hall, h.Ok ∧ dl = [h.enc] ∧ d = h.enc
theorem ok_need_hall (T : Fx K mg) : OkF P w K mg base 2 "need_hall" ["hall"] (spD K 1 R_need_hall) := by
  refine mk_ok T 1 rfl sc_need_hall rfl (fun _ _ _ _ _ _ us hl => match us, hl with | [_], _ => rfl) fun cdv A outer s H E hr dl d hR _ => ?_
  obtain ⟨h, ho, rfl, rfl⟩ := hR
  have hn1 := ho.n1
  have hn4 := ho.n4
  refine
    (sr_no (pt_eq (w_t (wt_or (pt_no (pt_b (pd_is T.f_isinstance T.f_tuple bt_tuple (pd_name 0) ki_tuple_tuple))) (fun hb => (wt_or1 (pt_neS (pd_len T.f_len (pd_name 0)) pd_int))))) ?_)
    (sr_no (pt_eq (pt_no (pt_b (pd_fn (ok_is_whole T) hr ⟨h.seats, 1, 6, rfl, rfl⟩ (ad_cons (pd_ix (pd_name 0) pd_int rfl) (ad_cons pd_int (ad_cons (pd_gint T.i_MOST_SEATS) ad_nil)))))) ?_)
    (sr_no (pt_eq (w_t (wt_or (pt_no (pt_b (pd_is T.f_isinstance T.f_tuple bt_tuple (pd_ix (pd_name 0) pd_int rfl) ki_tuple_tuple))) (fun hb => (wt_or1 (pt_no (pt_lele pd_int (pd_len T.f_len (pd_ix (pd_name 0) pd_int rfl)) (pd_gint T.i_MOST_FARES))))))) ?_)
    (sr_no (pt_eq (pt_no (pt_b (pd_all rfl T.f_all (pd_lc1B 1 h.fares .int rfl sc_need_hall.nd (wd_eq (wd_tup (pd_ix (pd_name 0) pd_int rfl)) rfl) (blkOk_by (N := N_need_hall) (sc := defScope (top 25)) (by decide +kernel)) (fun _ _ _ _ _ => pg_name sc_need_hall.nd rfl (.inl rfl)) ?_ (fun f => decide (1 ≤ f) && decide (f ≤ 99)) (fun a ha _ _ _ _ _ => (pd_fn (ok_is_whole T) hr ⟨a, 1, 99, rfl, rfl⟩ (ad_cons (pd_name 1) (ad_cons pd_int (ad_cons (pd_gint T.i_MOST_FARE) ad_nil))))))))) ?_)
    (sr_no (pt_eq (pt_no (pt_b (pd_all rfl T.f_all (pd_lc2B 2 3 (h.fares.zip h.fares.tail) (fun p => .int p.1) (fun p => .int p.2) (by decide) rfl sc_need_hall.nd (wd_eq (wd_zipT T.f_zip (pd_ix (pd_name 0) pd_int rfl) (pd_sl (pd_ix (pd_name 0) pd_int rfl) (od_some pd_int) od_none)) ?_) (blkOk_by (N := N_need_hall) (sc := defScope (top 25)) (by decide +kernel)) (fun _ _ _ _ _ => pg_tup rfl (pgs_cons (pg_name sc_need_hall.nd rfl (.inl rfl)) (pgs_cons (pg_name sc_need_hall.nd rfl (.inl rfl)) pgs_nil))) ?_ (fun p => decide (p.1 < p.2)) (fun a ha _ _ _ _ _ => (pd_lt (pd_name 2) (pd_name 3))))))) ?_)
    (sr_ret (pd_name 0)))))))
  · rfl
  · rw [whole_t ho.s1 ho.s6]; rfl
  · simp; omega
  · omega
  · rw [all_map, List.all_eq_true.mpr fun x hx => whole_t (ho.fr x hx).1 (ho.fr x hx).2]; rfl
  · rw [cutD_map, cutD_1, zipD_ints]
  · simp; omega
  · rw [all_map, List.all_eq_true.mpr fun p hp => decide_eq_true (ho.up p hp)]; rfl
abbrev N_are_limits : List Str := ["hall", "value", "limit"]
theorem sc_are_limits : FnScope N_are_limits ["hall", "value"] (defScope (top 26)) := ⟨rfl, rfl, rfl, by decide +kernel, rfl, by decide +kernel, by decide +kernel⟩
def R_are_limits : List PyData → PyData → Prop := fun dl d => ∃ (h : Hall) (w : Pw) (l : List Int), h.Ok ∧ LimOk h w l ∧ dl = [h.enc, encL l] ∧ d = .bool true
theorem ok_are_limits (T : Fx K mg) : OkF P w K mg base 2 "are_limits" ["hall", "value"] (spD K 2 R_are_limits) := by
  refine mk_ok T 2 rfl sc_are_limits rfl (fun _ _ _ _ _ _ us hl => match us, hl with | [_, _], _ => rfl) fun cdv A outer s H E hr dl d hR _ => ?_
  obtain ⟨h, w, l, ho, hl, rfl, rfl⟩ := hR
  have hn4 := ho.n4
  refine
    (sr_no (pt_eq (w_t (wt_or (pt_no (pt_b (pd_is T.f_isinstance T.f_tuple bt_tuple (pd_name 1) ki_tuple_tuple))) (fun hb => (wt_or1 (pt_neS (pd_len T.f_len (pd_name 1)) (pd_len T.f_len (pd_ix (pd_name 0) pd_int rfl))))))) ?_)
    (sr_ret (pd_eq (pd_all rfl T.f_all (pd_lc1B 2 l .int rfl sc_are_limits.nd (wd_eq (wd_tup (pd_name 1)) rfl) (blkOk_by (N := N_are_limits) (sc := defScope (top 26)) (by decide +kernel)) (fun _ _ _ _ _ => pg_name sc_are_limits.nd rfl (.inl rfl)) ?_ (fun f => decide (0 ≤ f) && decide (f ≤ h.seats)) (fun a ha _ _ _ _ _ => (pd_fn (ok_is_whole T) hr ⟨a, 0, h.seats, rfl, rfl⟩ (ad_cons (pd_name 2) (ad_cons pd_int (ad_cons (pd_ix (pd_name 0) pd_int rfl) ad_nil))))))) ?_)))
  · simp [eqv_int, hl.len]
  · rw [hl.len]; omega
  · rw [all_map, List.all_eq_true.mpr fun x hx => whole_t (hl.rng x hx).1 (hl.rng x hx).2]
abbrev N_is_plain : List Str := ["hall", "value", "one", "other"]
theorem sc_is_plain : FnScope N_is_plain ["hall", "value"] (defScope (top 27)) := ⟨rfl, rfl, rfl, by decide +kernel, rfl, by decide +kernel, by decide +kernel⟩
def R_is_plain : List PyData → PyData → Prop := fun dl d => ∃ (h : Hall) (w : Pw) (l : List Int), h.Ok ∧ LimOk h w l ∧ dl = [h.enc, (Ru.plain w l).enc] ∧ d = .bool true
theorem ok_is_plain (T : Fx K mg) : OkF P w K mg base 3 "is_plain" ["hall", "value"] (spD K 2 R_is_plain) := by
  refine mk_ok T 3 rfl sc_is_plain rfl (fun _ _ _ _ _ _ us hl => match us, hl with | [_, _], _ => rfl) fun cdv A outer s H E hr dl d hR _ => ?_
  obtain ⟨h, w, l, ho, hl, rfl, rfl⟩ := hR
  have hn4 := ho.n4
  refine
    (sr_no (pt_eq (w_t (wt_or (pt_neS (pd_len T.f_len (pd_name 1)) pd_int) (fun hb => (wt_or1 (pt_no (pt_b (pd_fn (ok_are_limits T) hr ⟨h, w, l, ho, hl, rfl, rfl⟩ (ad_cons (pd_name 0) (ad_cons (pd_ix (pd_name 1) pd_int rfl) ad_nil))))))))) ?_)
    (sr_ret (pd_eq (pd_or (pd_neS (pd_ix (pd_name 1) pd_int rfl) (pd_gstr T.s_NESTED)) (fun hb => (pd_one (pd_all rfl T.f_all (pd_lc2B 2 3 (l.zip l.tail) (fun p => .int p.1) (fun p => .int p.2) (by decide) rfl sc_is_plain.nd (wd_eq (wd_zipT T.f_zip (pd_ix (pd_name 1) pd_int rfl) (pd_sl (pd_ix (pd_name 1) pd_int rfl) (od_some pd_int) od_none)) ?_) (blkOk_by (N := N_is_plain) (sc := defScope (top 27)) (by decide +kernel)) (fun _ _ _ _ _ => pg_tup rfl (pgs_cons (pg_name sc_is_plain.nd rfl (.inl rfl)) (pgs_cons (pg_name sc_is_plain.nd rfl (.inl rfl)) pgs_nil))) ?_ (fun p => decide (p.1 ≤ p.2)) (fun a ha _ _ _ _ _ => (pd_le (pd_name 2) (pd_name 3)))))))) ?_)))
  · rfl
  · rw [cutD_map, cutD_1, zipD_ints]
  · have := hl.len
    simp; omega
  · cases w with
    | apart => rfl
    | kept => rfl
    | nested => rw [all_map, List.all_eq_true.mpr fun p hp => decide_eq_true (hl.up rfl p hp)]; rfl
abbrev N_is_word : List Str := ["hall", "value", "is_outside"]
theorem sc_is_word : FnScope N_is_word ["hall", "value", "is_outside"] (defScope (top 28)) := ⟨rfl, rfl, rfl, by decide +kernel, rfl, by decide +kernel, by decide +kernel⟩
def R_is_word : List PyData → PyData → Prop := fun dl d => ∃ (h : Hall) (r : Ru) (o : Bool), h.Ok ∧ WordOk h r o ∧ r.deep ≤ 3 ∧ dl = [h.enc, r.enc, .bool o] ∧ d = .bool true
theorem ok_is_word (T : Fx K mg) : OkF P w K mg base 4 "is_word" ["hall", "value", "is_outside"] (spD K 3 R_is_word) := by
  refine mk_ok T 4 rfl sc_is_word rfl (fun _ _ _ _ _ _ us hl => match us, hl with | [_, _, _], _ => rfl) fun cdv A outer s H E hr dl d hR _ => ?_
  obtain ⟨h, r, o, ho, hw, hd, rfl, rfl⟩ := hR
  have hs : SeqAt.shaped r.enc = true := (shp_ru r).ok (by omega)
  cases r with
  | plain w l =>
    cases w <;> exact
    (sr_no (pt_eq (w_t (wt_or (pt_no (pt_b (pd_is T.f_isinstance T.f_tuple bt_tuple (pd_name 1) ki_tuple_tuple))) (fun hb => (wt_or (pt_eqD hr.units (pd_name 1) (pd_tup ad_nil (by exact lle rfl)) hs sh_nilT) (fun hb => (wt_or1 (pt_no (pt_b (pd_is T.f_isinstance T.f_str bt_str (pd_ix (pd_name 1) pd_int rfl) ki_str_str))))))))) (by rw [show look _ 1 = Ru.enc (.plain _ l) from rfl, Ru.enc, eqv_nilT]; rfl))
    (sr_if (k := true) (pt_eq (pt_inT (pd_ix (pd_name 1) pd_int rfl) (pd_tup (ad_cons (pd_gstr T.s_APART) (ad_cons (pd_gstr T.s_NESTED) (ad_cons (pd_gstr T.s_KEPT) ad_nil))) (by exact lle rfl))) rfl) (fun hb =>
      (sr_ret (pd_fn (ok_is_plain T) hr ⟨h, _, l, ho, hw, rfl, rfl⟩ (ad_cons (pd_name 0) (ad_cons (pd_name 1) ad_nil))))) (fun hb => nomatch hb)))
  | two b r s =>
    cases b <;> exact
    (sr_no (pt_eq (w_t (wt_or (pt_no (pt_b (pd_is T.f_isinstance T.f_tuple bt_tuple (pd_name 1) ki_tuple_tuple))) (fun hb => (wt_or (pt_eqD hr.units (pd_name 1) (pd_tup ad_nil (by exact lle rfl)) hs sh_nilT) (fun hb => (wt_or1 (pt_no (pt_b (pd_is T.f_isinstance T.f_str bt_str (pd_ix (pd_name 1) pd_int rfl) ki_str_str))))))))) (by rw [show look _ 1 = Ru.enc (.two _ r s) from rfl, Ru.enc, eqv_nilT]; rfl))
    (sr_no (pt_eq (pt_inT (pd_ix (pd_name 1) pd_int rfl) (pd_tup (ad_cons (pd_gstr T.s_APART) (ad_cons (pd_gstr T.s_NESTED) (ad_cons (pd_gstr T.s_KEPT) ad_nil))) (by exact lle rfl))) rfl)
    (sr_if (k := true) (pt_eq (pt_inT (pd_ix (pd_name 1) pd_int rfl) (pd_tup (ad_cons (pd_gstr T.s_ALL) (ad_cons (pd_gstr T.s_ANY) ad_nil)) (by exact lle rfl))) rfl) (fun hb =>
      (sr_ret (pd_eq (pd_eqS (pd_len T.f_len (pd_name 1)) pd_int) rfl))) (fun hb => nomatch hb))))
  | oust r f =>
    obtain ⟨rfl, h0, h9⟩ := hw
    exact
    (sr_no (pt_eq (w_t (wt_or (pt_no (pt_b (pd_is T.f_isinstance T.f_tuple bt_tuple (pd_name 1) ki_tuple_tuple))) (fun hb => (wt_or (pt_eqD hr.units (pd_name 1) (pd_tup ad_nil (by exact lle rfl)) hs sh_nilT) (fun hb => (wt_or1 (pt_no (pt_b (pd_is T.f_isinstance T.f_str bt_str (pd_ix (pd_name 1) pd_int rfl) ki_str_str))))))))) (by rw [show look _ 1 = Ru.enc (.oust r f) from rfl, Ru.enc, eqv_nilT]; rfl))
    (sr_no (pt_eq (pt_inT (pd_ix (pd_name 1) pd_int rfl) (pd_tup (ad_cons (pd_gstr T.s_APART) (ad_cons (pd_gstr T.s_NESTED) (ad_cons (pd_gstr T.s_KEPT) ad_nil))) (by exact lle rfl))) rfl)
    (sr_no (pt_eq (pt_inT (pd_ix (pd_name 1) pd_int rfl) (pd_tup (ad_cons (pd_gstr T.s_ALL) (ad_cons (pd_gstr T.s_ANY) ad_nil)) (by exact lle rfl))) rfl)
    (sr_ret (pd_eq (pd_and (pd_eqS (pd_ix (pd_name 1) pd_int rfl) (pd_gstr T.s_OUST)) (fun hb => (pd_and (k := true) (pd_name 2) (fun hb => (pd_and (pd_eqS (pd_len T.f_len (pd_name 1)) pd_int) (fun hb => (pd_one (pd_fn (ok_is_whole T) hr ⟨f, 0, 99, rfl, rfl⟩ (ad_cons (pd_ix (pd_name 1) pd_int rfl) (ad_cons pd_int (ad_cons (pd_gint T.i_MOST_FEE) ad_nil))))))))))) (by rw [whole_t h0 h9]; rfl))))))
abbrev N_parts_of : List Str := ["rule"]
theorem sc_parts_of : FnScope N_parts_of ["rule"] (defScope (top 29)) := ⟨rfl, rfl, rfl, by decide +kernel, rfl, by decide +kernel, by decide +kernel⟩
def R_parts_of : List PyData → PyData → Prop := fun dl d => ∃ r : Ru, dl = [r.enc] ∧ d = .list ((partsD r).map .int)
theorem ok_parts_of (T : Fx K mg) : OkF P w K mg base 1 "parts_of" ["rule"] (spD K 1 R_parts_of) := by
  refine mk_ok T 5 rfl sc_parts_of rfl (fun _ _ _ _ _ _ us hl => match us, hl with | [_], _ => rfl) fun cdv A outer s H E hr dl d hR _ => ?_
  obtain ⟨r, rfl, rfl⟩ := hR
  cases r with
  | plain w l =>
    cases w <;> exact
    (sr_ret (pd_if (k := false) (pt_eq (pt_inT (pd_ix (pd_name 0) pd_int rfl) (pd_tup (ad_cons (pd_gstr T.s_ALL) (ad_cons (pd_gstr T.s_ANY) ad_nil)) (by exact lle rfl))) rfl) (fun hb => nomatch hb) (fun hb => (pd_if (k := false) (pt_eq (pt_eqS (pd_ix (pd_name 0) pd_int rfl) (pd_gstr T.s_OUST)) rfl) (fun hb => nomatch hb) (fun hb => (pd_lst ad_nil (by exact lle rfl)))))))
  | two b r s =>
    cases b <;> exact
    (sr_ret (pd_if (k := true) (pt_eq (pt_inT (pd_ix (pd_name 0) pd_int rfl) (pd_tup (ad_cons (pd_gstr T.s_ALL) (ad_cons (pd_gstr T.s_ANY) ad_nil)) (by exact lle rfl))) rfl) (fun hb => (pd_lst (ad_cons pd_int (ad_cons pd_int ad_nil)) (by exact lle rfl))) (fun hb => nomatch hb)))
  | oust r f => exact
    (sr_ret (pd_if (k := false) (pt_eq (pt_inT (pd_ix (pd_name 0) pd_int rfl) (pd_tup (ad_cons (pd_gstr T.s_ALL) (ad_cons (pd_gstr T.s_ANY) ad_nil)) (by exact lle rfl))) rfl) (fun hb => nomatch hb) (fun hb => (pd_if (k := true) (pt_eq (pt_eqS (pd_ix (pd_name 0) pd_int rfl) (pd_gstr T.s_OUST)) rfl) (fun hb => (pd_lst (ad_cons pd_int ad_nil) (by exact lle rfl))) (fun hb => nomatch hb)))))
abbrev N_need_kind : List Str := ["kind"]
theorem sc_need_kind : FnScope N_need_kind ["kind"] (defScope (top 31)) := ⟨rfl, rfl, rfl, by decide +kernel, rfl, by decide +kernel, by decide +kernel⟩
def R_need_kind : List PyData → PyData → Prop := fun dl d => ∃ rs : Bool, dl = [.str (kindS rs)] ∧ d = .str (kindS rs)
theorem ok_need_kind (T : Fx K mg) : OkF P w K mg base 1 "need_kind" ["kind"] (spD K 1 R_need_kind) := by
  refine mk_ok T 7 rfl sc_need_kind rfl (fun _ _ _ _ _ _ us hl => match us, hl with | [_], _ => rfl) fun cdv A outer s H E hr dl d hR _ => ?_
  obtain ⟨rs, rfl, rfl⟩ := hR
  cases rs <;> exact
    (sr_no (pt_eq (w_t (wt_or (pt_no (pt_b (pd_is T.f_isinstance T.f_str bt_str (pd_name 0) ki_str_str))) (fun hb => (wt_or1 (pt_notInT (pd_name 0) (pd_tup (ad_cons (pd_gstr T.s_ANY) (ad_cons (pd_gstr T.s_RISING) ad_nil)) (by exact lle rfl))))))) rfl)
    (sr_ret (pd_name 0)))
end
end G33
set_option Elab.async false
set_option linter.all false
set_option maxRecDepth 100000
set_option maxHeartbeats 2000000
namespace G33
open PySem PySem.Spec PyProof.Rows L2
theorem rgD_nat (a b : Nat) : rgD (a : Int) (b : Int) = (List.range (b - a)).map fun n => ((a + n : Nat) : Int) := by
  unfold rgD
  rw [show ((b : Int) - (a : Int)).toNat = b - a by omega]
  refine List.map_congr_left fun n _ => ?_
  omega
theorem rgD_nat0 (b : Nat) : rgD 0 (b : Int) = (List.range b).map fun n => ((n : Nat) : Int) := by
  have := rgD_nat 0 b
  simp only [Nat.sub_zero, Nat.zero_add] at this
  exact this
theorem ix_ints {ds : Ds} {K : PySem.W.Frag} (xs : List Int) (k : Nat) (i : Int) (hi : i = (k : Int)) (h : k < xs.length) : atI (xs.map PyData.int) i = some (.int (xs.getD k 0)) := by
  subst hi
  exact atI_ints xs k h
theorem bump_cut (l : List Int) (i : Nat) (m : Int) (h : i < l.length) : l.take i ++ [l.getD i 0 + m] ++ l.drop (i + 1) = bump l i m := by
  unfold bump
  rw [List.set_eq_take_append_cons_drop, if_pos h]
  simp
theorem cheap_lt {sold : List Int} {i : Nat} (h : cheap sold = some i) : i < sold.length := by
  have := List.mem_of_find?_eq_some h
  simpa using this
theorem cheap_list (sold : List Int) : ((((List.range sold.length).zip sold).filter fun p => decide (0 < p.2)).map fun p => p.1).head? = cheap sold := by
  unfold cheap
  rw [← List.head?_filter]
  congr 1
  have e : (List.range sold.length).zip sold = (List.range sold.length).map fun i => (i, sold.getD i 0) := by
    refine List.ext_getElem (by simp) fun n h1 h2 => ?_
    have h3 : n < sold.length := by simpa using h1
    simp [List.getElem?_eq_getElem h3]
  rw [e, List.filter_map, List.map_map]
  exact List.map_id' _
section
variable {P : Program} {w : World} {K : PySem.W.Frag} {mg : Str → Option Value} {base : Heap}
abbrev N_lets_plain : List Str := ["hall", "rule", "sold", "fare", "word", "limits", "last"]
theorem sc_lets_plain : FnScope N_lets_plain ["hall", "rule", "sold", "fare"] (defScope (top 32)) := ⟨rfl, rfl, rfl, by decide +kernel, rfl, by decide +kernel, by decide +kernel⟩
def R_lets_plain : List PyData → PyData → Prop := fun dl d => ∃ (h : Hall) (w : Pw) (l sold : List Int) (fare : Nat), LimOk h w l ∧ sold.length = h.fares.length ∧ h.fares.length ≤ 100 ∧ fare < h.fares.length ∧ dl = [h.enc, (Ru.plain w l).enc, encL sold, .int fare] ∧ d = .bool (letsP h w l sold fare)
theorem ok_lets_plain (T : Fx K mg) : OkF P w K mg base 1 "lets_plain" ["hall", "rule", "sold", "fare"] (spD K 4 R_lets_plain) := by
  refine mk_ok T 8 rfl sc_lets_plain rfl (fun _ _ _ _ _ _ us hl => match us, hl with | [_, _, _, _], _ => rfl) fun cdv A outer s H E hr dl d hR _ => ?_
  obtain ⟨h, w, l, sold, fare, hl, hs, hn, hf, rfl, rfl⟩ := hR
  have hll := hl.len
  cases w with
  | apart => exact
    (sr_un2 4 5 rfl sc_lets_plain.nd (pd_name 1)
    (sr_if (k := true) (pt_eq (pt_eqS (pd_name 4) (pd_gstr T.s_APART)) rfl) (fun hb =>
      (sr_ret (pd_eq (pd_lt (pd_ix (pd_name 2) (pd_name 3) (atI_ints sold fare (by omega))) (pd_ix (pd_name 5) (pd_name 3) (atI_ints l fare (by omega)))) rfl))) (fun hb => nomatch hb)))
  | kept => exact
    (sr_un2 4 5 rfl sc_lets_plain.nd (pd_name 1)
    (sr_no (pt_eq (pt_eqS (pd_name 4) (pd_gstr T.s_APART)) rfl)
    (sr_if (k := true) (pt_eq (pt_eqS (pd_name 4) (pd_gstr T.s_KEPT)) rfl) (fun hb =>
      (sr_ret (pd_eq (pd_gt (pd_sub (pd_ix (pd_name 0) pd_int rfl) (pd_sumT rfl T.f_sum (pd_name 2))) (pd_ix (pd_name 5) (pd_name 3) (atI_ints l fare (by omega)))) rfl))) (fun hb => nomatch hb))))
  | nested =>
    refine
    (sr_un2 4 5 rfl sc_lets_plain.nd (pd_name 1)
    (sr_no (pt_eq (pt_eqS (pd_name 4) (pd_gstr T.s_APART)) rfl)
    (sr_no (pt_eq (pt_eqS (pd_name 4) (pd_gstr T.s_KEPT)) rfl)
    (sr_ret (pd_eq (pd_all rfl T.f_all (pd_lc1B 6 (List.range (sold.length - fare)) (fun i => .int ((fare + i : Nat) : Int)) rfl sc_lets_plain.nd (wd_eq (wd_range2 T.f_range (pd_name 3) (pd_len T.f_len (pd_name 2)) ?_) ?_) (blkOk_by (N := N_lets_plain) (sc := defScope (top 32)) (by decide +kernel)) (fun _ _ _ _ _ => pg_name sc_lets_plain.nd rfl (.inl rfl)) ?_ (fun i => decide ((sold.take (fare + i + 1)).sum < l.getD (fare + i) 0)) (fun a ha _ _ _ _ _ => (pd_eq (pd_lt (pd_sumT rfl T.f_sum (pd_eq (pd_sl (pd_name 2) od_none (od_some (pd_add (pd_name 6) pd_int))) (cut_to1 sold (fare + a)))) (pd_ix (pd_name 5) (pd_name 6) (atI_ints l (fare + a) ?_))) rfl)))) ?_)))))
    · rw [List.length_map]; omega
    · rw [List.length_map, rgD_nat, List.map_map]; rfl
    · simp; omega
    · have := List.mem_range.mp ha; omega
    · rw [all_map]; rfl
abbrev N_lets_of : List Str := ["hall", "rule", "sold", "fare"]
theorem sc_lets_of : FnScope N_lets_of ["hall", "rule", "sold", "fare"] (defScope (top 33)) := ⟨rfl, rfl, rfl, by decide +kernel, rfl, by decide +kernel, by decide +kernel⟩
def R_lets_of (n : Nat) : List PyData → PyData → Prop := fun dl d => ∃ (h : Hall) (r : Ru) (sold : List Int) (fare : Nat), r.Ok h ∧ r.deep < n ∧ sold.length = h.fares.length ∧ h.fares.length ≤ 100 ∧ fare < h.fares.length ∧ dl = [h.enc, r.enc, encL sold, .int fare] ∧ d = .bool (lets h r sold fare)
theorem ok_of_in {h : Hall} {r : Ru} (x : r.In h) : r.Ok h := by cases r <;> first | exact x | exact x.elim
theorem ok_lets_of (T : Fx K mg) : ∀ n : Nat, OkF P w K mg base (n + 1) "lets_of" ["hall", "rule", "sold", "fare"] (spD K 4 (R_lets_of n))
  | 0 => by
    refine mk_ok T 9 rfl sc_lets_of rfl (fun _ _ _ _ _ _ us hl => match us, hl with | [_, _, _, _], _ => rfl) fun cdv A outer s H E hr dl d hR _ => ?_
    obtain ⟨h, r, sold, fare, ho, hd, _⟩ := hR
    exact absurd hd (Nat.not_lt_zero _)
  | n + 1 => by
    have ih := ok_lets_of T n
    refine mk_ok T 9 rfl sc_lets_of rfl (fun _ _ _ _ _ _ us hl => match us, hl with | [_, _, _, _], _ => rfl) fun cdv A outer s H E hr dl d hR _ => ?_
    obtain ⟨h, r, sold, fare, ho, hd, hs, hn, hf, rfl, rfl⟩ := hR
    cases r with
    | plain w l =>
      cases w <;> exact
      (sr_no (pt_eq (pt_eqS (pd_ix (pd_name 1) pd_int rfl) (pd_gstr T.s_ALL)) rfl)
      (sr_no (pt_eq (pt_eqS (pd_ix (pd_name 1) pd_int rfl) (pd_gstr T.s_ANY)) rfl)
      (sr_ret (pd_if (k := false) (pt_eq (pt_eqS (pd_ix (pd_name 1) pd_int rfl) (pd_gstr T.s_OUST)) rfl) (fun hb => nomatch hb) (fun hb => (pd_fn (ok_lets_plain T) hr ⟨h, _, l, sold, fare, ho, hs, hn, hf, rfl, rfl⟩ (ad_cons (pd_name 0) (ad_cons (pd_name 1) (ad_cons (pd_name 2) (ad_cons (pd_name 3) ad_nil)))) (by omega)))))))
    | two b r1 r2 =>
      have d1 : r1.deep < n := by rw [Ru.deep] at hd; omega
      have d2 : r2.deep < n := by rw [Ru.deep] at hd; omega
      cases b with
      | true => exact
        (sr_if (k := true) (pt_eq (pt_eqS (pd_ix (pd_name 1) pd_int rfl) (pd_gstr T.s_ALL)) rfl) (fun hb =>
          (sr_ret (pd_eq (pd_and (pd_fn ih hr ⟨h, r1, sold, fare, ok_of_in ho.1, d1, hs, hn, hf, rfl, rfl⟩ (ad_cons (pd_name 0) (ad_cons (pd_ix (pd_name 1) pd_int rfl) (ad_cons (pd_name 2) (ad_cons (pd_name 3) ad_nil)))) (Nat.le_refl _)) (fun hb => (pd_one (pd_fn ih hr ⟨h, r2, sold, fare, ok_of_in ho.2, d2, hs, hn, hf, rfl, rfl⟩ (ad_cons (pd_name 0) (ad_cons (pd_ix (pd_name 1) pd_int rfl) (ad_cons (pd_name 2) (ad_cons (pd_name 3) ad_nil)))) (Nat.le_refl _))))) rfl))) (fun hb => nomatch hb))
      | false => exact
        (sr_no (pt_eq (pt_eqS (pd_ix (pd_name 1) pd_int rfl) (pd_gstr T.s_ALL)) rfl)
        (sr_if (k := true) (pt_eq (pt_eqS (pd_ix (pd_name 1) pd_int rfl) (pd_gstr T.s_ANY)) rfl) (fun hb =>
          (sr_ret (pd_eq (pd_or (pd_fn ih hr ⟨h, r1, sold, fare, ok_of_in ho.1, d1, hs, hn, hf, rfl, rfl⟩ (ad_cons (pd_name 0) (ad_cons (pd_ix (pd_name 1) pd_int rfl) (ad_cons (pd_name 2) (ad_cons (pd_name 3) ad_nil)))) (Nat.le_refl _)) (fun hb => (pd_one (pd_fn ih hr ⟨h, r2, sold, fare, ok_of_in ho.2, d2, hs, hn, hf, rfl, rfl⟩ (ad_cons (pd_name 0) (ad_cons (pd_ix (pd_name 1) pd_int rfl) (ad_cons (pd_name 2) (ad_cons (pd_name 3) ad_nil)))) (Nat.le_refl _))))) rfl))) (fun hb => nomatch hb)))
    | oust r1 f =>
      have d1 : r1.deep < n := by rw [Ru.deep] at hd; omega
      exact
      (sr_no (pt_eq (pt_eqS (pd_ix (pd_name 1) pd_int rfl) (pd_gstr T.s_ALL)) rfl)
      (sr_no (pt_eq (pt_eqS (pd_ix (pd_name 1) pd_int rfl) (pd_gstr T.s_ANY)) rfl)
      (sr_ret (pd_if (k := true) (pt_eq (pt_eqS (pd_ix (pd_name 1) pd_int rfl) (pd_gstr T.s_OUST)) rfl) (fun hb => (pd_fn ih hr ⟨h, r1, sold, fare, ok_of_in ho.1, d1, hs, hn, hf, rfl, rfl⟩ (ad_cons (pd_name 0) (ad_cons (pd_ix (pd_name 1) pd_int rfl) (ad_cons (pd_name 2) (ad_cons (pd_name 3) ad_nil)))) (Nat.le_refl _))) (fun hb => nomatch hb)))))
abbrev N_none_of : List Str := ["hall"]
theorem sc_none_of : FnScope N_none_of ["hall"] (defScope (top 39)) := ⟨rfl, rfl, rfl, by decide +kernel, rfl, by decide +kernel, by decide +kernel⟩
def R_none_of : List PyData → PyData → Prop := fun dl d => ∃ h : Hall, h.Ok ∧ dl = [h.enc] ∧ d = encL (none0 h)
theorem none_eq (h : Hall) : PyData.tuple (List.replicate ((h.fares.map PyData.int).length : Int).toNat (.int 0)) = encL (none0 h) := by
  rw [List.length_map, Int.toNat_natCast]
  show _ = PyData.tuple ((List.replicate h.fares.length (0 : Int)).map .int)
  rw [List.map_replicate]
theorem ok_none_of (T : Fx K mg) : OkF P w K mg base 1 "none_of" ["hall"] (spD K 1 R_none_of) := by
  refine mk_ok T 10 rfl sc_none_of rfl (fun _ _ _ _ _ _ us hl => match us, hl with | [_], _ => rfl) fun cdv A outer s H E hr dl d hR _ => ?_
  obtain ⟨h, ho, rfl, rfl⟩ := hR
  have hn1 := ho.n1
  have hn4 := ho.n4
  exact
    (sr_ret (pd_eq (pd_repN (pd_tup (ad_cons pd_int ad_nil) (by exact lle rfl)) (pd_len T.f_len (pd_ix (pd_name 0) pd_int rfl)) (by rw [List.length_map]; omega) (by rw [List.length_map]; omega)) (none_eq h)))
abbrev N_with_more : List Str := ["counts", "number", "more"]
theorem sc_with_more : FnScope N_with_more ["counts", "number", "more"] (defScope (top 40)) := ⟨rfl, rfl, rfl, by decide +kernel, rfl, by decide +kernel, by decide +kernel⟩
def R_with_more : List PyData → PyData → Prop := fun dl d => ∃ (l : List Int) (i : Nat) (m : Int), i < l.length ∧ l.length ≤ 100 ∧ dl = [encL l, .int i, .int m] ∧ d = encL (bump l i m)
theorem ok_with_more (T : Fx K mg) : OkF P w K mg base 1 "with_more" ["counts", "number", "more"] (spD K 3 R_with_more) := by
  refine mk_ok T 11 rfl sc_with_more rfl (fun _ _ _ _ _ _ us hl => match us, hl with | [_, _, _], _ => rfl) fun cdv A outer s H E hr dl d hR _ => ?_
  obtain ⟨l, i, m, hi, hl, rfl, rfl⟩ := hR
  refine
    (sr_ret (pd_eq (pd_catT (pd_catT (pd_eq (pd_sl (pd_name 0) od_none (od_some (pd_name 1))) (cut_to l i)) (pd_tup (ad_cons (pd_add (pd_ix (pd_name 0) (pd_name 1) (atI_ints l i hi)) (pd_name 2)) ad_nil) (by exact lle rfl)) ?_) (pd_eq (pd_sl (pd_name 0) (od_some (pd_add (pd_name 1) pd_int)) od_none) (cut_from1 l i)) ?_) ?_))
  · simp; omega
  · simp; omega
  · rw [← bump_cut l i m hi]
    simp [encL]
abbrev N_cheapest_sold : List Str := ["sold", "some", "number", "many"]
theorem sc_cheapest_sold : FnScope N_cheapest_sold ["sold"] (defScope (top 41)) := ⟨rfl, rfl, rfl, by decide +kernel, rfl, by decide +kernel, by decide +kernel⟩
def optI : Option Nat → PyData
  | some i => .int i
  | none => .none
def R_cheapest_sold : List PyData → PyData → Prop := fun dl d => ∃ sold : List Int, sold.length ≤ 100 ∧ dl = [encL sold] ∧ d = optI (cheap sold)
theorem ok_cheapest_sold (T : Fx K mg) : OkF P w K mg base 1 "cheapest_sold" ["sold"] (spD K 1 R_cheapest_sold) := by
  refine mk_ok T 12 rfl sc_cheapest_sold rfl (fun _ _ _ _ _ _ us hl => match us, hl with | [_], _ => rfl) fun cdv A outer s H E hr dl d hR _ => ?_
  obtain ⟨sold, hl, rfl, rfl⟩ := hR
  refine
    (sr_asgL (asg_lc2 1 2 3 ((List.range sold.length).zip sold) (fun p => .int (p.1 : Nat)) (fun p => .int p.2) (fun p => decide (0 < p.2)) (fun p => .int (p.1 : Nat)) (by decide) rfl sc_cheapest_sold.nd (wd_eq (wd_enumT T.f_enumerate (pd_name 0)) (enumD_ints sold)) (blkOk_by (N := N_cheapest_sold) (sc := defScope (top 41)) (by decide +kernel)) (fun _ _ _ _ _ => pg_tup rfl (pgs_cons (pg_name sc_cheapest_sold.nd rfl (.inl rfl)) (pgs_cons (pg_name sc_cheapest_sold.nd rfl (.inl rfl)) pgs_nil))) (fun a ha => pureI _) ?_ (fun a ha _ _ _ _ _ => (ptd_one (pt_gt (pd_name 3) pd_int))) (fun a ha hf _ _ _ _ _ => (pd_name 2)))
    ?_)
  · simp; omega
  · have hc := cheap_list sold
    have hm : ((((List.range sold.length).zip sold).filter fun p => decide (0 < p.2)).map fun p => PyData.int (p.1 : Nat)) = ((((List.range sold.length).zip sold).filter fun p => decide (0 < p.2)).map fun p => p.1).map fun n => PyData.int (n : Nat) := by rw [List.map_map]; rfl
    rw [hm]
    cases q : ((((List.range sold.length).zip sold).filter fun p => decide (0 < p.2)).map fun p => p.1) with
    | nil =>
      rw [q] at hc
      rw [← hc]
      exact (sr_ret (pd_if (k := false) (pt_eq (pt_neD hr.units (pd_name 1) (pd_lst ad_nil (by exact lle rfl)) sh_nilL sh_nilL) rfl) (fun hb => nomatch hb) (fun hb => pd_non)))
    | cons n ns =>
      rw [q] at hc
      rw [← hc]
      exact (sr_ret (pd_if (k := true) (pt_eq (pt_neD hr.units (pd_name 1) (pd_lst ad_nil (by exact lle rfl)) ((shp_mapL (n := 0) fun _ _ => shp_int _).ok (by decide)) sh_nilL) (by show (!PyData.eqv (.list _) (.list [])) = true; rw [eqv_nilL]; rfl)) (fun hb => (pd_ixL (pd_name 1) pd_int (atI_head _ _))) (fun hb => nomatch hb)))
end
end G33
set_option Elab.async false
set_option linter.all false
set_option maxRecDepth 100000
set_option maxHeartbeats 2000000
namespace G33
open PySem PySem.Spec PyProof.Rows L2
abbrev Stp.enc (x : Stp) : PyData := .tuple [encL x.sold, .int x.paid, .str x.deed]
theorem step_taken {h : Hall} {r : Ru} {sold : List Int} {paid : Int} {fare : Nat} (hb : (decide (sold.sum < h.seats) && lets h r sold fare) = true) : step h r sold paid fare = ⟨bump sold fare 1, paid, "taken"⟩ := by
  unfold step
  rw [Bool.and_eq_true, decide_eq_true_eq] at hb
  rw [if_pos hb]
def stepB (h : Hall) (r : Ru) (sold : List Int) (paid : Int) (fare : Nat) : Stp := match ousts h r sold fare with
  | some (i, fee) => ⟨bump (bump sold i (-1)) fare 1, paid + fee, "ousted"⟩
  | none => ⟨sold, paid, "refused"⟩
theorem stepB_some {h : Hall} {r : Ru} {sold : List Int} {paid : Int} {fare i : Nat} {fee : Int} (q : ousts h r sold fare = some (i, fee)) : stepB h r sold paid fare = ⟨bump (bump sold i (-1)) fare 1, paid + fee, "ousted"⟩ := by unfold stepB; rw [q]
theorem stepB_none {h : Hall} {r : Ru} {sold : List Int} {paid : Int} {fare : Nat} (q : ousts h r sold fare = none) : stepB h r sold paid fare = ⟨sold, paid, "refused"⟩ := by unfold stepB; rw [q]
theorem step_not {h : Hall} {r : Ru} {sold : List Int} {paid : Int} {fare : Nat} (hb : (decide (sold.sum < h.seats) && lets h r sold fare) = false) : step h r sold paid fare = stepB h r sold paid fare := by
  unfold step
  rw [if_neg]
  · rfl
  · intro z
    rw [z.2, decide_eq_true z.1] at hb
    cases hb
theorem bump_len (l : List Int) (i : Nat) (m : Int) : (bump l i m).length = l.length := by unfold bump; rw [List.length_set]
theorem ints_cons (a : Int) (l : List Int) : (PyData.int a :: l.map PyData.int) = (a :: l).map .int := rfl
section
variable {P : Program} {w : World} {K : PySem.W.Frag} {mg : Str → Option Value} {base : Heap}
abbrev N_step_of : List Str := ["hall", "rule", "sold", "paid", "fare", "least"]
theorem sc_step_of : FnScope N_step_of ["hall", "rule", "sold", "paid", "fare"] (defScope (top 42)) := ⟨rfl, rfl, rfl, by decide +kernel, rfl, by decide +kernel, by decide +kernel⟩
structure StepOk (h : Hall) (r : Ru) (sold : List Int) (fare : Nat) : Prop where
  rule : r.Ok h
  deep : r.deep ≤ 3
  len : sold.length = h.fares.length
  n100 : h.fares.length ≤ 100
  fare : fare < h.fares.length
def R_step_of : List PyData → PyData → Prop := fun dl d => ∃ (h : Hall) (r : Ru) (sold : List Int) (paid : Int) (fare : Nat), StepOk h r sold fare ∧ dl = [h.enc, r.enc, encL sold, .int paid, .int fare] ∧ d = (step h r sold paid fare).enc
theorem ok_step_of (T : Fx K mg) : OkF P w K mg base 6 "step_of" ["hall", "rule", "sold", "paid", "fare"] (spD K 5 R_step_of) := by
  refine mk_ok T 13 rfl sc_step_of rfl (fun _ _ _ _ _ _ us hl => match us, hl with | [_, _, _, _, _], _ => rfl) fun cdv A outer s H E hr dl d hR _ => ?_
  obtain ⟨h, r, sold, paid, fare, so, rfl, rfl⟩ := hR
  obtain ⟨ho, hd, hl, hn, hf⟩ := so
  refine
    (sr_if (k := decide (sold.sum < h.seats) && lets h r sold fare) (w_t (wt_and (pt_lt (pd_sumT rfl T.f_sum (pd_name 2)) (pd_ix (pd_name 0) pd_int rfl)) (fun hb => (wt_and1 (pt_b (pd_fn (ok_lets_of T 4) hr ⟨h, r, sold, fare, ho, by omega, hl, hn, hf, rfl, rfl⟩ (ad_cons (pd_name 0) (ad_cons (pd_name 1) (ad_cons (pd_name 2) (ad_cons (pd_name 4) ad_nil)))))))))) (fun hb =>
      (sr_ret (pd_eq (pd_tup (ad_cons (pd_fn (ok_with_more T) hr ⟨sold, fare, 1, by omega, by omega, rfl, rfl⟩ (ad_cons (pd_name 2) (ad_cons (pd_name 4) (ad_cons pd_int ad_nil)))) (ad_cons (pd_name 3) (ad_cons (pd_gstr T.s_TAKEN) ad_nil))) (by exact lle rfl)) (by rw [step_taken hb]; rfl)))) (fun hb =>
    (sr_eq (d1 := (stepB h r sold paid fare).enc) (sr_asg 5 sc_step_of.nd (pd_fn (ok_cheapest_sold T) hr ⟨sold, by omega, rfl, rfl⟩ (ad_cons (pd_name 2) ad_nil)) ?_) (by rw [step_not hb]))))
  cases r with
  | plain w l =>
    cases w <;> exact
    (sr_no (pt_eq (w_t (wt_and (k' := true) (pt_eqS (pd_ix (pd_name 1) pd_int rfl) (pd_gstr T.s_OUST)) (fun hb => nomatch hb))) rfl)
    (sr_ret (pd_tup (ad_cons (pd_name 2) (ad_cons (pd_name 3) (ad_cons (pd_gstr T.s_REFUSED) ad_nil))) (by exact lle rfl))))
  | two b r1 r2 =>
    cases b <;> exact
    (sr_no (pt_eq (w_t (wt_and (k' := true) (pt_eqS (pd_ix (pd_name 1) pd_int rfl) (pd_gstr T.s_OUST)) (fun hb => nomatch hb))) rfl)
    (sr_ret (pd_tup (ad_cons (pd_name 2) (ad_cons (pd_name 3) (ad_cons (pd_gstr T.s_REFUSED) ad_nil))) (by exact lle rfl))))
  | oust r1 fee =>
    cases q : cheap sold with
    | none =>
      rw [stepB_none (show ousts h (.oust r1 fee) sold fare = none by unfold ousts; rw [q])]
      exact
      (sr_no (pt_eq (w_t (wt_and (pt_eqS (pd_ix (pd_name 1) pd_int rfl) (pd_gstr T.s_OUST)) (fun _ => wt_and (k' := true) (pt_notN (pd_name 5)) (fun hb => nomatch hb)))) rfl)
      (sr_ret (pd_tup (ad_cons (pd_name 2) (ad_cons (pd_name 3) (ad_cons (pd_gstr T.s_REFUSED) ad_nil))) (by exact lle rfl))))
    | some i =>
      have hi := cheap_lt q
      refine
      (sr_if (k := decide ((i : Int) < fare) && decide (fee < h.fares.getD fare 0 - h.fares.getD i 0)) (pt_eq (w_t (wt_and (pt_eqS (pd_ix (pd_name 1) pd_int rfl) (pd_gstr T.s_OUST)) (fun hb => (wt_and (pt_notN (pd_name 5)) (fun hb => (wt_and (pt_lt (pd_name 5) (pd_name 4)) (fun hb => (wt_and1 (pt_gt (pd_sub (pd_ix (pd_ix (pd_name 0) pd_int rfl) (pd_name 4) (atI_ints h.fares fare (by omega))) (pd_ix (pd_ix (pd_name 0) pd_int rfl) (pd_name 5) (atI_ints h.fares i (by omega)))) (pd_ix (pd_name 1) pd_int rfl)))))))))) rfl) (fun hb =>
        (sr_ret (pd_eq (pd_tup (ad_cons (pd_fn (ok_with_more T) hr ⟨bump sold i (-1), fare, 1, by rw [bump_len]; omega, by rw [bump_len]; omega, rfl, rfl⟩ (ad_cons (pd_fn (ok_with_more T) hr ⟨sold, i, -1, hi, by omega, rfl, rfl⟩ (ad_cons (pd_name 2) (ad_cons (pd_name 5) (ad_cons (pd_neg pd_int) ad_nil)))) (ad_cons (pd_name 4) (ad_cons pd_int ad_nil)))) (ad_cons (pd_add (pd_name 3) (pd_ix (pd_name 1) pd_int rfl)) (ad_cons (pd_gstr T.s_OUSTED) ad_nil))) (by exact lle rfl)) ?_))) (fun hb =>
      (sr_ret (pd_eq (pd_tup (ad_cons (pd_name 2) (ad_cons (pd_name 3) (ad_cons (pd_gstr T.s_REFUSED) ad_nil))) (by exact lle rfl)) ?_))))
      · rw [Bool.and_eq_true, decide_eq_true_eq, decide_eq_true_eq] at hb
        rw [stepB_some (show ousts h (.oust r1 fee) sold fare = some (i, fee) by unfold ousts; rw [q]; exact if_pos ⟨by omega, hb.2⟩)]
      · have : ¬ (i < fare ∧ fee < h.fares.getD fare 0 - h.fares.getD i 0) := by
          rintro ⟨a, b⟩
          rw [decide_eq_true b, decide_eq_true (show (i : Int) < fare by omega)] at hb
          cases hb
        rw [stepB_none (show ousts h (.oust r1 fee) sold fare = none by unfold ousts; rw [q]; exact if_neg this)]
        rfl
abbrev N_worth_of : List Str := ["hall", "counts", "fare", "many"]
theorem sc_worth_of : FnScope N_worth_of ["hall", "counts"] (defScope (top 44)) := ⟨rfl, rfl, rfl, by decide +kernel, rfl, by decide +kernel, by decide +kernel⟩
def R_worth_of : List PyData → PyData → Prop := fun dl d => ∃ (h : Hall) (c : List Int), h.fares.length ≤ 100 ∧ (∀ f ∈ h.fares, 1 ≤ f ∧ f ≤ 99) ∧ dl = [h.enc, encL c] ∧ d = .int (worth h c)
theorem ok_worth_of (T : Fx K mg) : OkF P w K mg base 1 "worth_of" ["hall", "counts"] (spD K 2 R_worth_of) := by
  refine mk_ok T 15 rfl sc_worth_of rfl (fun _ _ _ _ _ _ us hl => match us, hl with | [_, _], _ => rfl) fun cdv A outer s H E hr dl d hR _ => ?_
  obtain ⟨h, c, hn, hf, rfl, rfl⟩ := hR
  refine
    (sr_ret (pd_sum rfl T.f_sum (pd_lc2I 2 3 (h.fares.zip c) (fun p => .int p.1) (fun p => .int p.2) (by decide) rfl sc_worth_of.nd (wd_eq (wd_zipT T.f_zip (pd_ix (pd_name 0) pd_int rfl) (pd_name 1)) (zipD_ints _ _)) (blkOk_by (N := N_worth_of) (sc := defScope (top 44)) (by decide +kernel)) (fun _ _ _ _ _ => pg_tup rfl (pgs_cons (pg_name sc_worth_of.nd rfl (.inl rfl)) (pgs_cons (pg_name sc_worth_of.nd rfl (.inl rfl)) pgs_nil))) ?_ (fun p => p.1 * p.2) (fun a ha _ _ _ _ _ => (pd_mul (pd_name 2) (pd_name 3) ?_)))))
  · simp; omega
  · have := hf a.1 (List.of_mem_zip ha).1
    exact .inl ⟨by omega, by omega⟩
abbrev N_are_counts : List Str := ["hall", "value", "many"]
theorem sc_are_counts : FnScope N_are_counts ["hall", "value"] (defScope (top 46)) := ⟨rfl, rfl, rfl, by decide +kernel, rfl, by decide +kernel, by decide +kernel⟩
def R_are_counts : List PyData → PyData → Prop := fun dl d => ∃ (h : Hall) (c : List Int), h.fares.length ≤ 100 ∧ CntOk h c ∧ (∀ x ∈ c, x ≤ 6) ∧ dl = [h.enc, encL c] ∧ d = .bool true
theorem ok_are_counts (T : Fx K mg) : OkF P w K mg base 2 "are_counts" ["hall", "value"] (spD K 2 R_are_counts) := by
  refine mk_ok T 16 rfl sc_are_counts rfl (fun _ _ _ _ _ _ us hl => match us, hl with | [_, _], _ => rfl) fun cdv A outer s H E hr dl d hR _ => ?_
  obtain ⟨h, c, hn, hc, h6, rfl, rfl⟩ := hR
  refine
    (sr_no (pt_eq (w_t (wt_or (pt_no (pt_b (pd_is T.f_isinstance T.f_tuple bt_tuple (pd_name 1) ki_tuple_tuple))) (fun hb => (wt_or1 (pt_neS (pd_len T.f_len (pd_name 1)) (pd_len T.f_len (pd_ix (pd_name 0) pd_int rfl))))))) ?_)
    (sr_ret (pd_eq (pd_and (pd_all rfl T.f_all (pd_lc1B 2 c .int rfl sc_are_counts.nd (wd_eq (wd_tup (pd_name 1)) rfl) (blkOk_by (N := N_are_counts) (sc := defScope (top 46)) (by decide +kernel)) (fun _ _ _ _ _ => pg_name sc_are_counts.nd rfl (.inl rfl)) ?_ (fun f => decide (0 ≤ f) && decide (f ≤ 6)) (fun a ha _ _ _ _ _ => (pd_fn (ok_is_whole T) hr ⟨a, 0, 6, rfl, rfl⟩ (ad_cons (pd_name 2) (ad_cons pd_int (ad_cons (pd_gint T.i_MOST_SEATS) ad_nil))))))) (fun hb => (pd_one (pd_le (pd_sumT rfl T.f_sum (pd_name 1)) (pd_ix (pd_name 0) pd_int rfl))))) ?_)))
  · simp [eqv_int, hc.len]
  · rw [hc.len]; omega
  · rw [all_map, List.all_eq_true.mpr fun x hx => whole_t (hc.nn x hx) (h6 x hx), decide_eq_true hc.sm]; rfl
end
end G33
set_option Elab.async false
set_option linter.all false
set_option maxRecDepth 100000
set_option maxHeartbeats 2000000
namespace G33
open PySem PySem.Spec PyProof.Rows L2
theorem kind_eqv (rs : Bool) : PyData.eqv (.str (kindS rs)) (.str "rising") = rs := by
  cases rs <;> rfl
theorem enumL_ints (as : List Int) : enumD (as.map .int) = ((List.range as.length).zip as).map fun p => .tuple [.int (p.1 : Nat), .int p.2] := enumD_ints as
def RowOk (h : Hall) (rs : Bool) (l : List Int) : Prop := l.length ≤ 400 ∧ (∀ x ∈ l, 0 ≤ x ∧ x ≤ (h.fares.length : Int) - 1) ∧ (rs = true → ∀ i : Nat, i + 1 < l.length → l.getD i 0 ≤ l.getD (i + 1) 0)
section
variable {P : Program} {w : World} {K : PySem.W.Frag} {mg : Str → Option Value} {base : Heap}
abbrev N_need_calls : List Str := ["hall", "row", "number", "fare"]
theorem sc_need_calls : FnScope N_need_calls ["hall", "row"] (defScope (top 43)) := ⟨rfl, rfl, rfl, by decide +kernel, rfl, by decide +kernel, by decide +kernel⟩
def R_need_calls : List PyData → PyData → Prop := fun dl d => ∃ (h : Hall) (l : List Int) (t : Bool), l.length ≤ 400 ∧ (∀ x ∈ l, 0 ≤ x ∧ x ≤ (h.fares.length : Int) - 1) ∧ dl = [h.enc, if t then encL l else .list (l.map .int)] ∧ d = encL l
theorem ok_need_calls (T : Fx K mg) : OkF P w K mg base 2 "need_calls" ["hall", "row"] (spD K 2 R_need_calls) := by
  refine mk_ok T 14 rfl sc_need_calls rfl (fun _ _ _ _ _ _ us hl => match us, hl with | [_, _], _ => rfl) fun cdv A outer s H E hr dl d hR _ => ?_
  obtain ⟨h, l, t, hl, hx, rfl, rfl⟩ := hR
  have hin : ∀ (n : Nat) (a : Nat × Int), ((List.range l.length).zip l)[n]? = some a → a.2 ∈ l := fun n a q => by
    obtain ⟨x, y⟩ := a
    exact (List.of_mem_zip (List.mem_of_getElem? q)).2
  have hw : ∀ a ∈ l, (!(decide (0 ≤ a) && decide (a ≤ (h.fares.length : Int) - 1))) = false := fun a ha => by rw [whole_t (hx a ha).1 (hx a ha).2]; rfl
  cases t with
  | true => exact
    (sr_no (pt_eq (w_t (wt_or (pt_no (pt_b (pd_is2 T.f_isinstance T.f_list T.f_tuple bt_list bt_tuple (pd_name 1) ki_tuple_list ki_tuple_tuple))) (fun hb => (wt_or1 (pt_gt (pd_len T.f_len (pd_name 1)) (pd_gint T.i_MOST_CALLS)))))) (by simp; omega))
    (sr_for2 2 3 ((List.range l.length).zip l) (fun p => .int (p.1 : Nat)) (fun p => .int p.2) (fun _ => startD 4 [h.enc, encL l]) (by decide) nox_xe rfl sc_need_calls.nd (wd_eq (wd_enumT T.f_enumerate (pd_name 1)) (enumD_ints l))
      (fun n a ha => (sn_no (pt_eq (pt_no (pt_b (pd_fn (ok_is_whole T) hr ⟨a.2, 0, (h.fares.length : Int) - 1, rfl, rfl⟩ (ad_cons (pd_name 3) (ad_cons pd_int (ad_cons (pd_eq (pd_sub (pd_len T.f_len (pd_ix (pd_name 0) pd_int rfl)) pd_int) (by rw [List.length_map])) ad_nil)))))) (hw a.2 (hin n a ha)))
        (sn_sub (.same (.same (.skip (.skip .nil)))) sn_nil)))
    (sr_ret (pd_tuple T.f_tuple (pd_name 1) (.inr rfl)))))
  | false => exact
    (sr_no (pt_eq (w_t (wt_or (pt_no (pt_b (pd_is2 T.f_isinstance T.f_list T.f_tuple bt_list bt_tuple (pd_name 1) ki_list_list ki_list_tuple))) (fun hb => (wt_or1 (pt_gt (pd_lenL T.f_len (pd_name 1)) (pd_gint T.i_MOST_CALLS)))))) (by simp; omega))
    (sr_for2 2 3 ((List.range l.length).zip l) (fun p => .int (p.1 : Nat)) (fun p => .int p.2) (fun _ => startD 4 [h.enc, .list (l.map .int)]) (by decide) nox_xe rfl sc_need_calls.nd (wd_eq (wd_enumL T.f_enumerate (pd_name 1)) (enumL_ints l))
      (fun n a ha => (sn_no (pt_eq (pt_no (pt_b (pd_fn (ok_is_whole T) hr ⟨a.2, 0, (h.fares.length : Int) - 1, rfl, rfl⟩ (ad_cons (pd_name 3) (ad_cons pd_int (ad_cons (pd_eq (pd_sub (pd_len T.f_len (pd_ix (pd_name 0) pd_int rfl)) pd_int) (by rw [List.length_map])) ad_nil)))))) (hw a.2 (hin n a ha)))
        (sn_sub (.same (.same (.skip (.skip .nil)))) sn_nil)))
    (sr_ret (pd_tuple T.f_tuple (pd_name 1) (.inl rfl)))))
abbrev N_need_row : List Str := ["hall", "kind", "row", "some", "number"]
theorem sc_need_row : FnScope N_need_row ["hall", "kind", "row"] (defScope (top 48)) := ⟨rfl, rfl, rfl, by decide +kernel, rfl, by decide +kernel, by decide +kernel⟩
def R_need_row : List PyData → PyData → Prop := fun dl d => ∃ (h : Hall) (rs : Bool) (l : List Int) (t : Bool), RowOk h rs l ∧ dl = [h.enc, .str (kindS rs), if t then encL l else .list (l.map .int)] ∧ d = encL l
theorem ok_need_row (T : Fx K mg) : OkF P w K mg base 3 "need_row" ["hall", "kind", "row"] (spD K 3 R_need_row) := by
  refine mk_ok T 17 rfl sc_need_row rfl (fun _ _ _ _ _ _ us hl => match us, hl with | [_, _, _], _ => rfl) fun cdv A outer s H E hr dl d hR _ => ?_
  obtain ⟨h, rs, l, t, ⟨hl, hx, hs⟩, rfl, rfl⟩ := hR
  have hnd : nd (if t then encL l else .list (l.map .int)) = true := by cases t <;> rfl
  refine
    (sr_asg 3 sc_need_row.nd (pd_fn (ok_need_calls T) hr ⟨h, l, t, hl, hx, rfl, rfl⟩ (ad_cons (pd_name 0) (ad_cons (pd_name 2) ad_nil)))
    (sr_for1 4 (List.range (l.length - 1)) (fun i => .int ((1 + i : Nat) : Int)) (fun _ => (startD 5 [h.enc, .str (kindS rs), if t then encL l else .list (l.map .int)]).set 3 (some (encL l))) nox_xe rfl sc_need_row.nd (wv_eq (wv_range2 T.f_range pd_int (pd_len T.f_len (pd_name 3)) ?_) ?_)
      (fun n a ha => (sn_no (pt_eq (w_t (wt_and (pt_eq (pt_eqS (pd_name 1) (pd_gstr T.s_RISING)) (kind_eqv rs)) (fun hb => wt_and1 (pt_lt (pd_ix (pd_name 3) (pd_name 4) (atI_ints l (1 + a) ?_)) (pd_ix (pd_name 3) (pd_eq (pd_sub (pd_name 4) pd_int) (show PyData.int (((1 + a : Nat) : Int) - 1) = .int (a : Nat) by congr 1; omega)) (atI_ints l a ?_)))))) ?_)
        (sn_sub (.same (.same (.same (.same (.skip .nil))))) sn_nil)))
    (sr_ret (pd_name 3))))
  · rw [List.length_map]; omega
  · rw [List.length_map, show (1 : Int) = ((1 : Nat) : Int) from rfl, rgD_nat, List.map_map]; rfl
  · have := List.mem_range.mp (List.mem_of_getElem? ha); omega
  · have := List.mem_range.mp (List.mem_of_getElem? ha); omega
  · have hm := List.mem_range.mp (List.mem_of_getElem? ha)
    cases rs with
    | false => rfl
    | true =>
      have := hs rfl a (by omega)
      rw [Bool.true_and, decide_eq_false_iff_not, Nat.add_comm 1 a]
      omega
abbrev N_first_both : List Str := ["hall"]
theorem sc_first_both : FnScope N_first_both ["hall"] (defScope (top 54)) := ⟨rfl, rfl, rfl, by decide +kernel, rfl, by decide +kernel, by decide +kernel⟩
def R_first_both : List PyData → PyData → Prop := fun dl d => ∃ h : Hall, h.Ok ∧ dl = [h.enc] ∧ d = (first h).enc
theorem ok_first_both (T : Fx K mg) : OkF P w K mg base 2 "first_both" ["hall"] (spD K 1 R_first_both) := by
  refine mk_ok T 18 rfl sc_first_both rfl (fun _ _ _ _ _ _ us hl => match us, hl with | [_], _ => rfl) fun cdv A outer s H E hr dl d hR _ => ?_
  obtain ⟨h, ho, rfl, rfl⟩ := hR
  exact
    (sr_ret (pd_tup (ad_cons (pd_fn (ok_none_of T) hr ⟨h, ho, rfl, rfl⟩ (ad_cons (pd_name 0) ad_nil)) (ad_cons pd_int (ad_cons (pd_fn (ok_none_of T) hr ⟨h, ho, rfl, rfl⟩ (ad_cons (pd_name 0) ad_nil)) (ad_cons pd_int (ad_cons (pd_neg pd_int) ad_nil))))) (by exact lle rfl)))
abbrev N_fares_both : List Str := ["hall", "kind", "both"]
theorem sc_fares_both : FnScope N_fares_both ["hall", "kind", "both"] (defScope (top 55)) := ⟨rfl, rfl, rfl, by decide +kernel, rfl, by decide +kernel, by decide +kernel⟩
def R_fares_both : List PyData → PyData → Prop := fun dl d => ∃ (h : Hall) (rs : Bool) (p : Pr), h.fares.length ≤ 100 ∧ p.last ≤ 100 ∧ dl = [h.enc, .str (kindS rs), p.enc] ∧ d = .list ((mayOf h rs p).map .int)
theorem low_ok {h : Hall} {rs : Bool} {p : Pr} (hl : p.last ≤ 100) : 0 ≤ lowOf rs p ∧ lowOf rs p ≤ 100 := by
  unfold lowOf
  split <;> omega
theorem ok_fares_both (T : Fx K mg) : OkF P w K mg base 1 "fares_both" ["hall", "kind", "both"] (spD K 3 R_fares_both) := by
  refine mk_ok T 19 rfl sc_fares_both rfl (fun _ _ _ _ _ _ us hl => match us, hl with | [_, _, _], _ => rfl) fun cdv A outer s H E hr dl d hR _ => ?_
  obtain ⟨h, rs, p, hn, hp, rfl, rfl⟩ := hR
  have hlo := low_ok (h := h) (rs := rs) hp
  refine
    (sr_ret (pd_eq (pd_listRg (i := lowOf rs p) rfl T.f_list T.f_range (pd_if (pt_eq (pt_eqS (pd_name 1) (pd_gstr T.s_RISING)) (kind_eqv rs)) (fun hb => (pd_eq (pd_max2 rfl T.f_max pd_int (pd_ix (pd_name 2) pd_int rfl)) (by rw [hb]; rfl))) (fun hb => pd_eq pd_int (by rw [hb]; rfl))) (pd_len T.f_len (pd_ix (pd_name 0) pd_int rfl)) ?_) ?_))
  · rw [List.length_map]; exact RgOk.of_le (by omega) (by omega) (by omega) (by omega)
  · rw [List.length_map]; rfl
abbrev N_behind_both : List Str := ["hall", "two", "kind", "both", "fare", "near", "mine", "deed", "far", "yours", "other"]
theorem sc_behind_both : FnScope N_behind_both ["hall", "two", "kind", "both", "fare"] (defScope (top 56)) := ⟨rfl, rfl, rfl, by decide +kernel, rfl, by decide +kernel, by decide +kernel⟩
abbrev encTwo (r s : Ru) : PyData := .tuple [r.enc, s.enc]
def R_behind_both : List PyData → PyData → Prop := fun dl d => ∃ (h : Hall) (r s : Ru) (rs : Bool) (p : Pr) (f : Nat), StepOk h r p.a f ∧ StepOk h s p.b f ∧ dl = [h.enc, encTwo r s, .str (kindS rs), p.enc, .int f] ∧ d = (behind h r s rs p f).enc
theorem ok_behind_both (T : Fx K mg) : OkF P w K mg base 7 "behind_both" ["hall", "two", "kind", "both", "fare"] (spD K 5 R_behind_both) := by
  refine mk_ok T 20 rfl sc_behind_both rfl (fun _ _ _ _ _ _ us hl => match us, hl with | [_, _, _, _, _], _ => rfl) fun cdv A outer s H E hr dl d hR _ => ?_
  obtain ⟨h, r, r2, rs, p, f, h1, h2, rfl, rfl⟩ := hR
  exact
    (sr_un3 5 6 7 rfl sc_behind_both.nd (pd_fn (ok_step_of T) hr ⟨h, r, p.a, p.pa, f, h1, rfl, rfl⟩ (ad_cons (pd_name 0) (ad_cons (pd_ix (pd_name 1) pd_int rfl) (ad_cons (pd_ix (pd_name 3) pd_int rfl) (ad_cons (pd_ix (pd_name 3) pd_int rfl) (ad_cons (pd_name 4) ad_nil))))))
    (sr_un3 8 9 10 rfl sc_behind_both.nd (pd_fn (ok_step_of T) hr ⟨h, r2, p.b, p.pb, f, h2, rfl, rfl⟩ (ad_cons (pd_name 0) (ad_cons (pd_ix (pd_name 1) pd_int rfl) (ad_cons (pd_ix (pd_name 3) pd_int rfl) (ad_cons (pd_ix (pd_name 3) pd_int rfl) (ad_cons (pd_name 4) ad_nil))))))
    (sr_ret (pd_tup (ad_cons (pd_name 5) (ad_cons (pd_name 6) (ad_cons (pd_name 8) (ad_cons (pd_name 9) (ad_cons (pd_if (d := .int (if rs then (f : Int) else -1)) (pt_eq (pt_eqS (pd_name 2) (pd_gstr T.s_RISING)) (kind_eqv rs)) (fun hb => pd_eq (pd_name 4) (by rw [hb]; rfl)) (fun hb => (pd_eq (pd_neg pd_int) (by rw [hb]; rfl)))) ad_nil))))) (by exact lle rfl)))))
abbrev N_lead_at : List Str := ["hall", "both"]
theorem sc_lead_at : FnScope N_lead_at ["hall", "both"] (defScope (top 57)) := ⟨rfl, rfl, rfl, by decide +kernel, rfl, by decide +kernel, by decide +kernel⟩
def R_lead_at : List PyData → PyData → Prop := fun dl d => ∃ (h : Hall) (p : Pr), h.Ok ∧ dl = [h.enc, p.enc] ∧ d = .int (lead h p)
theorem ok_lead_at (T : Fx K mg) : OkF P w K mg base 2 "lead_at" ["hall", "both"] (spD K 2 R_lead_at) := by
  refine mk_ok T 21 rfl sc_lead_at rfl (fun _ _ _ _ _ _ us hl => match us, hl with | [_, _], _ => rfl) fun cdv A outer s H E hr dl d hR _ => ?_
  obtain ⟨h, p, ho, rfl, rfl⟩ := hR
  have hn : h.fares.length ≤ 100 := Nat.le_trans ho.n4 (by decide)
  exact
    (sr_ret (pd_add (pd_sub (pd_sub (pd_fn (ok_worth_of T) hr ⟨h, p.a, hn, ho.fr, rfl, rfl⟩ (ad_cons (pd_name 0) (ad_cons (pd_ix (pd_name 1) pd_int rfl) ad_nil))) (pd_ix (pd_name 1) pd_int rfl)) (pd_fn (ok_worth_of T) hr ⟨h, p.b, hn, ho.fr, rfl, rfl⟩ (ad_cons (pd_name 0) (ad_cons (pd_ix (pd_name 1) pd_int rfl) ad_nil)))) (pd_ix (pd_name 1) pd_int rfl)))
abbrev N_need_truth : List Str := ["value"]
theorem sc_need_truth : FnScope N_need_truth ["value"] (defScope (top 62)) := ⟨rfl, rfl, rfl, by decide +kernel, rfl, by decide +kernel, by decide +kernel⟩
def R_need_truth : List PyData → PyData → Prop := fun dl d => ∃ b : Bool, dl = [.bool b] ∧ d = .none
theorem ok_need_truth (T : Fx K mg) : OkF P w K mg base 1 "need_truth" ["value"] (spD K 1 R_need_truth) := by
  refine mk_okN T 26 rfl sc_need_truth rfl (fun _ _ _ _ _ _ us hl => match us, hl with | [_], _ => rfl) (fun dl d ⟨_, _, e⟩ => e) fun cdv A outer s H E hr dl d hR _ => ?_
  obtain ⟨b, rfl, rfl⟩ := hR
  exact (sn_no (pt_eq (pt_no (pt_b (pd_is T.f_isinstance T.f_bool bt_bool (pd_name 0) ki_bool_bool))) rfl) sn_nil)
abbrev N_is_number : List Str := ["value"]
theorem sc_is_number : FnScope N_is_number ["value"] (defScope (top 68)) := ⟨rfl, rfl, rfl, by decide +kernel, rfl, by decide +kernel, by decide +kernel⟩
def R_is_number : List PyData → PyData → Prop := fun dl d => ∃ i : Int, dl = [.int i] ∧ d = .bool true
theorem ok_is_number (T : Fx K mg) : OkF P w K mg base 1 "is_number" ["value"] (spD K 1 R_is_number) := by
  refine mk_ok T 32 rfl sc_is_number rfl (fun _ _ _ _ _ _ us hl => match us, hl with | [_], _ => rfl) fun cdv A outer s H E hr dl d hR _ => ?_
  obtain ⟨i, rfl, rfl⟩ := hR
  exact
    (sr_ret (pd_eq (pd_and (pd_is T.f_isinstance T.f_int bt_int (pd_name 0) ki_int_int) (fun hb => (pd_one (pd_not (pd_is T.f_isinstance T.f_bool bt_bool (pd_name 0) ki_int_bool))))) rfl))
abbrev N_is_both : List Str := ["hall", "kind", "value"]
theorem sc_is_both : FnScope N_is_both ["hall", "kind", "value"] (defScope (top 69)) := ⟨rfl, rfl, rfl, by decide +kernel, rfl, by decide +kernel, by decide +kernel⟩
structure PrOk (h : Hall) (rs : Bool) (p : Pr) : Prop where
  a : CntOk h p.a
  b : CntOk h p.b
  a6 : ∀ x ∈ p.a, x ≤ 6
  b6 : ∀ x ∈ p.b, x ≤ 6
  pa : 0 ≤ p.pa
  pb : 0 ≤ p.pb
  lo : -1 ≤ p.last
  hi : p.last ≤ if rs then (h.fares.length : Int) - 1 else -1
def R_is_both : List PyData → PyData → Prop := fun dl d => ∃ (h : Hall) (rs : Bool) (p : Pr), h.Ok ∧ PrOk h rs p ∧ dl = [h.enc, .str (kindS rs), p.enc] ∧ d = .bool true
theorem ok_is_both (T : Fx K mg) : OkF P w K mg base 3 "is_both" ["hall", "kind", "value"] (spD K 3 R_is_both) := by
  refine mk_ok T 33 rfl sc_is_both rfl (fun _ _ _ _ _ _ us hl => match us, hl with | [_, _, _], _ => rfl) fun cdv A outer s H E hr dl d hR _ => ?_
  obtain ⟨h, rs, p, ho, hp, rfl, rfl⟩ := hR
  have hn : h.fares.length ≤ 100 := Nat.le_trans ho.n4 (by decide)
  have h1 := hp.pa
  have h2 := hp.pb
  exact
    (sr_no (pt_eq (w_t (wt_or (pt_no (pt_b (pd_is T.f_isinstance T.f_tuple bt_tuple (pd_name 2) ki_tuple_tuple))) (fun hb => (wt_or1 (pt_neS (pd_len T.f_len (pd_name 2)) pd_int))))) rfl)
    (sr_no (pt_eq (w_t (wt_or (pt_no (pt_b (pd_fn (ok_are_counts T) hr ⟨h, p.a, hn, hp.a, hp.a6, rfl, rfl⟩ (ad_cons (pd_name 0) (ad_cons (pd_ix (pd_name 2) pd_int rfl) ad_nil))))) (fun hb => (wt_or1 (pt_no (pt_b (pd_fn (ok_are_counts T) hr ⟨h, p.b, hn, hp.b, hp.b6, rfl, rfl⟩ (ad_cons (pd_name 0) (ad_cons (pd_ix (pd_name 2) pd_int rfl) ad_nil))))))))) rfl)
    (sr_no (pt_eq (w_t (wt_or (pt_no (pt_b (pd_fn (ok_is_number T) hr ⟨p.pa, rfl, rfl⟩ (ad_cons (pd_ix (pd_name 2) pd_int rfl) ad_nil)))) (fun hb => (wt_or (pt_no (pt_b (pd_fn (ok_is_number T) hr ⟨p.pb, rfl, rfl⟩ (ad_cons (pd_ix (pd_name 2) pd_int rfl) ad_nil)))) (fun hb => (wt_or1 (pt_lt (pd_min2 rfl T.f_min (pd_ix (pd_name 2) pd_int rfl) (pd_ix (pd_name 2) pd_int rfl)) pd_int))))))) (show (!true || (!true || decide (min p.pa p.pb < 0))) = false by rw [decide_eq_false (by omega)]; rfl))
    (sr_ret (pd_eq (pd_fn (ok_is_whole T) hr ⟨p.last, -1, if rs then (h.fares.length : Int) - 1 else -1, rfl, rfl⟩ (ad_cons (pd_ix (pd_name 2) pd_int rfl) (ad_cons (pd_neg pd_int) (ad_cons (pd_if (pt_eq (pt_eqS (pd_name 1) (pd_gstr T.s_RISING)) (kind_eqv rs)) (fun hb => (pd_eq (pd_sub (pd_len T.f_len (pd_ix (pd_name 0) pd_int rfl)) pd_int) (by rw [hb, List.length_map]; rfl))) (fun hb => (pd_eq (pd_neg pd_int) (by rw [hb]; rfl)))) ad_nil)))) (by rw [whole_t hp.lo hp.hi]))))))
end
end G33
set_option Elab.async false
set_option linter.all false
set_option maxRecDepth 100000
set_option maxHeartbeats 2000000
namespace G33
open PySem PySem.Spec PyProof.Rows L2
abbrev KvD (kv : List (Pr × List Int)) : List (Pr × PyData) := kv.map fun q => (q.1, encL q.2)
theorem kvD_pure (kv : List (Pr × List Int)) : pureKV (KvD kv) := fun q hq => by
  obtain ⟨x, _, rfl⟩ := List.mem_map.mp hq
  exact pure_encL _
theorem kvD_in (kv : List (Pr × List Int)) (p : Pr) : inK (KvD kv) p = hasK kv p := by
  unfold inK hasK
  rw [lookup_map]
  simp
theorem set_ne {σ : L2.St} {i j : Nat} {o : Option V} {u : Option V} (h : i ≠ j) (e : σ[j]? = some u) : (σ.set i o)[j]? = some u := by rw [List.getElem?_set_ne h]; exact e
theorem set_eq {σ : L2.St} {i : Nat} {o : Option V} (h : i < σ.length) : (σ.set i o)[i]? = some o := List.getElem?_set_self h
section
variable {P : Program} {w : World} {K : PySem.W.Frag} {mg : Str → Option Value} {base : Heap}
def RX_fares (K : PySem.W.Frag) : List PyData → Out → Prop := fun dl O => ∃ (h : Hall) (rs : Bool) (p : Pr), h.fares.length ≤ 100 ∧ p.last ≤ 100 ∧ dl = [h.enc, .str (kindS rs), p.enc] ∧ O = oN K ((mayOf h rs p).map .int)
theorem ok_fares (T : Fx K mg) : OkF P w K mg base 1 "fares_both" ["hall", "kind", "both"] (spX w K 3 (RX_fares K)) := by
  refine mk_okX T 19 rfl sc_fares_both rfl (fun _ _ _ _ _ _ us hl => match us, hl with | [_, _, _], _ => rfl) fun cdv A outer s H E hr dl O hR _ => ?_
  obtain ⟨h, rs, p, hn, hp, rfl, rfl⟩ := hR
  have hlo := low_ok (h := h) (rs := rs) hp
  rw [show mayOf h rs p = rgD (lowOf rs p) ((h.fares.map PyData.int).length : Int) from by rw [List.length_map]; rfl]
  exact so_retN
    (po_listRg (i := lowOf rs p) rfl T.f_list T.f_range (pd_if (pt_eq (pt_eqS (pd_name 1) (pd_gstr T.s_RISING)) (kind_eqv rs)) (fun hb => (pd_eq (pd_max2 rfl T.f_max pd_int (pd_ix (pd_name 2) pd_int rfl)) (by rw [hb]; rfl))) (fun hb => pd_eq pd_int (by rw [hb]; rfl))) (pd_len T.f_len (pd_ix (pd_name 0) pd_int rfl)) (by rw [List.length_map]; exact RgOk.of_le (by omega) (by omega) (by omega) (by omega)))
/-! ways_both -/
abbrev N_ways : List Str := ["hall", "two", "kind", "begin", "found", "layer", "fresh", "both", "fare", "later"]
theorem sc_ways : FnScope N_ways ["hall", "two", "kind"] (defScope (top 59)) := ⟨rfl, rfl, rfl, by decide +kernel, rfl, by decide +kernel, by decide +kernel⟩
def wds (h : Hall) (r s : Ru) (rs : Bool) (kv : List (Pr × List Int)) (o5 o6 o7 o8 o9 : Option PyData) : Ds := [some h.enc, some (encTwo r s), some (.str (kindS rs)), some (first h).enc, some (dictD (KvD kv)), o5, o6, o7, o8, o9]
structure WI (w : World) (K : PySem.W.Frag) (H0 : Hp) (h : Hall) (r s : Ru) (rs : Bool) (v : V) (layer : List Pr) (o7 o8 o9 : Option PyData) (st : Bs (List Int)) (σ : L2.St) (H : Hp) : Prop where
  ex : Ex H0 H
  lc : Lc w K H σ (wds h r s rs st.1 none none o7 o8 o9)
  lay : Dp K H v (.list (layer.map Pr.enc))
  new4 : ∃ a, σ[4]? = some (some (.ref a)) ∧ H0 a = none
  li : ∃ q vs, LiA K H σ 6 q vs (st.2.map Pr.enc) ∧ v ≠ .ref q ∧ H0 q = none
section
variable {H0 H H' : Hp} {h : Hall} {r s : Ru} {rs : Bool} {v : V} {layer : List Pr} {o7 o8 o9 : Option PyData} {st : Bs (List Int)} {σ : L2.St}
theorem WI.up (x : WI w K H0 h r s rs v layer o7 o8 o9 st σ H) (e : Ex H H') : WI w K H0 h r s rs v layer o7 o8 o9 st σ H' :=
  ⟨x.ex.trans e, x.lc.up e, x.lay.up e, x.new4, let ⟨q, vs, a, b, c⟩ := x.li; ⟨q, vs, a.up e, b, c⟩⟩
theorem WI.set {t : Nat} {u : V} {d : PyData} {o7' o8' o9' : Option PyData} (x : WI w K H0 h r s rs v layer o7 o8 o9 st σ H) (ht : 6 < t) (hd : Dp K H u d) (e : (wds h r s rs st.1 none none o7 o8 o9).set t (some d) = wds h r s rs st.1 none none o7' o8' o9') : WI w K H0 h r s rs v layer o7' o8' o9' st (σ.set t (some u)) H :=
  ⟨x.ex, by rw [← e]; exact x.lc.set t hd, x.lay, let ⟨a, b, c⟩ := x.new4; ⟨a, set_ne (by omega) b, c⟩, let ⟨q, vs, a, b, c⟩ := x.li; ⟨q, vs, ⟨set_ne (by omega) a.slot, a.here, a.data⟩, b, c⟩⟩
theorem WI.sub {o7' o8' o9' : Option PyData} (x : WI w K H0 h r s rs v layer o7 o8 o9 st σ H) (e : SubD (wds h r s rs st.1 none none o7' o8' o9') (wds h r s rs st.1 none none o7 o8 o9)) : WI w K H0 h r s rs v layer o7' o8' o9' st σ H :=
  ⟨x.ex, e.lc x.lc, x.lay, x.new4, x.li⟩
theorem wds_pu (h7 : ∀ d, o7 = some d → pure d = true) (h8 : ∀ d, o8 = some d → pure d = true) (h9 : ∀ d, o9 = some d → pure d = true) {kv : List (Pr × List Int)} : PuD (wds h r s rs kv none none o7 o8 o9) := by
  refine .p (pure_hall h) (.p (pure_two r s) (.p (pure_str _) (.p (pure_pr _) (.t (kvD_pure kv) (.n (.n ?_))))))
  have one : ∀ {o : Option PyData} {ds : Ds}, (∀ d, o = some d → pure d = true) → PuD ds → PuD (o :: ds) := fun {o ds} ho hd => by
    cases o with
    | none => exact .n hd
    | some d => exact .p (ho d rfl) hd
  exact one h7 (one h8 (one h9 .nil))
end
/-- the numbers' list is not the states' list -/
theorem ints_ne {H : Hp} {v : V} {fs : List Int} {q : Addr} {σ : L2.St} {vs : List V} {ps : List Pr} (h : ∃ p ws, v = .ref p ∧ H p = some (.lst ws) ∧ DpAll K H ws (fs.map .int)) (hf : fs ≠ []) (L : LiA K H σ 6 q vs (ps.map Pr.enc)) : v ≠ .ref q := by
  obtain ⟨p, ws, rfl, h1, h2⟩ := h
  rintro e
  cases e
  rw [L.here] at h1
  cases h1
  have hd := L.data
  match fs, hf, h2 with
  | f :: fs, _, h2 =>
    cases h2 with
    | cons a b =>
      cases a
      match ps, hd with
      | [], hd => cases hd
      | p :: ps, hd =>
        cases hd with
        | cons c d => cases c
/-- what makes a going through -/
structure WaysOk (h : Hall) (r s : Ru) (rs : Bool) (n : Nat) (fin : Bs (List Int)) : Prop where
  ho : h.Ok
  r_ok : r.Ok h
  s_ok : s.Ok h
  r3 : r.deep ≤ 3
  s3 : s.deep ≤ 3
  eq : bfs (behind h r s rs) (mayOf h rs) (fun _ => rowOf) ([(first h, [])], [first h]) n = fin
  done : fin.2 = []
  few : fin.1.length ≤ 20000
abbrev bst (h : Hall) (r s : Ru) (rs : Bool) : Nat → Bs (List Int) := bfs (behind h r s rs) (mayOf h rs) (fun _ => rowOf) ([(first h, [])], [first h])
def StG (h : Hall) (rs : Bool) (p : Pr) : Prop := p.a.length = h.fares.length ∧ p.b.length = h.fares.length ∧ p.last ≤ 100
theorem stepB_len {h : Hall} {r : Ru} {c : List Int} {pd : Int} {f : Nat} : (step h r c pd f).sold.length = c.length := by
  unfold step
  split
  · exact bump_len _ _ _
  · split
    · rw [bump_len, bump_len]
    · rfl
theorem may_lt {h : Hall} {rs : Bool} {p : Pr} {f : Int} (hf : f ∈ mayOf h rs p) : ∃ n : Nat, f = n ∧ n < h.fares.length := by
  unfold mayOf at hf
  obtain ⟨n, hn, rfl⟩ := List.mem_map.mp hf
  have hl : 0 ≤ lowOf rs p := by
    unfold lowOf
    split <;> omega
  have := List.mem_range.mp hn
  exact ⟨(lowOf rs p).toNat + n, by omega, by omega⟩
theorem stG_next {h : Hall} {r s : Ru} {rs : Bool} (ho : h.Ok) {p : Pr} {f : Int} (g : StG h rs p) (hf : f ∈ mayOf h rs p) : StG h rs (behind h r s rs p f) := by
  obtain ⟨n, rfl, hn⟩ := may_lt hf
  have := ho.n4
  refine ⟨(stepB_len).trans g.1, (stepB_len).trans g.2.1, ?_⟩
  show (if rs then (n : Int) else -1) ≤ 100
  split <;> omega
theorem stG_first (h : Hall) (rs : Bool) : StG h rs (first h) := ⟨by simp [first, none0], by simp [first, none0], by simp [first]⟩
theorem step_ok {h : Hall} {r s : Ru} {rs : Bool} {p : Pr} {n : Nat} (ho : h.Ok) (g : StG h rs p) (hn : n < h.fares.length) (r1 : r.Ok h) (r2 : s.Ok h) (d1 : r.deep ≤ 3) (d2 : s.deep ≤ 3) : StepOk h r p.a n ∧ StepOk h s p.b n :=
  ⟨⟨r1, d1, g.1, Nat.le_trans ho.n4 (by decide), hn⟩, ⟨r2, d2, g.2.1, Nat.le_trans ho.n4 (by decide), hn⟩⟩
end
end G33
set_option Elab.async false
set_option linter.all false
set_option maxRecDepth 100000
set_option maxHeartbeats 4000000
namespace G33
open PySem PySem.Spec PyProof.Rows L2
section
variable {P : Program} {w : World} {K : PySem.W.Frag} {mg : Str → Option Value} {base : Heap}
def RX_ways (w : World) (K : PySem.W.Frag) : List PyData → Out → Prop := fun dl O => ∃ (h : Hall) (r s : Ru) (rs : Bool) (n : Nat) (fin : Bs (List Int)), WaysOk h r s rs n fin ∧ dl = [h.enc, encTwo r s, .str (kindS rs)] ∧ O = oH w K (dictD (KvD fin.1))
/-- between the rounds -/
structure IW (w : World) (K : PySem.W.Frag) (H0 : Hp) (h : Hall) (r s : Ru) (rs : Bool) (k : Nat) (σ : L2.St) (H : Hp) : Prop where
  ex : Ex H0 H
  lc : Lc w K H σ (wds h r s rs (bst h r s rs k).1 (some (.list ((bst h r s rs k).2.map Pr.enc))) none none none none)
  new4 : ∃ a, σ[4]? = some (some (.ref a)) ∧ H0 a = none
  li : ∃ l vs, LiA K H σ 5 l vs ((bst h r s rs k).2.map Pr.enc)
theorem IW.up {H0 H H' : Hp} {h : Hall} {r s : Ru} {rs : Bool} {k : Nat} {σ : L2.St} (x : IW w K H0 h r s rs k σ H) (e : Ex H H') : IW w K H0 h r s rs k σ H' := ⟨x.ex.trans e, x.lc.up e, x.new4, let ⟨l, vs, a⟩ := x.li; ⟨l, vs, a.up e⟩⟩
theorem ex_ext {a : Addr} {H0 H1 H2 : Hp} (e : Ex H0 H1) (x : AtExt a H1 H2) (n : H0 a = none) : Ex H0 H2 := fun b u hb => by
  have ne : b ≠ a := by
    rintro rfl
    rw [n] at hb
    cases hb
  rw [x.but b ne]
  exact e b u hb
theorem bst_all {h : Hall} {r s : Ru} {rs : Bool} (ho : h.Ok) (k : Nat) : AllK (StG h rs) (bst h r s rs k) ∧ LayIn (bst h r s rs k) :=
  ⟨bfs_good (fun p f g hf => stG_next ho g hf) ⟨fun p hp => by simp at hp; subst hp; exact stG_first h rs, fun p hp => by simp at hp; subst hp; exact stG_first h rs⟩ k,
    bfs_in (fun p hp => by simp at hp; subst hp; simp [hasK]) k⟩
theorem ok_ways (T : Fx K mg) : OkF P w K mg base 8 "ways_both" ["hall", "two", "kind"] (spX w K 3 (RX_ways w K)) := by
  refine mk_okX T 23 rfl sc_ways rfl (fun _ _ _ _ _ _ us hl => match us, hl with | [_, _, _], _ => rfl) fun cdv A outer sh H E hr dl O hR _ => ?_
  obtain ⟨h, r, s, rs, n, fin, wo, rfl, rfl⟩ := hR
  have ho := wo.ho
  refine so_h fun σ0 H0 L0 => ?_
  refine hs_cons (M := fun σ H => Ex H0 H ∧ Lc w K H σ ((startD 10 [h.enc, encTwo r s, .str (kindS rs)]).set 3 (some (first h).enc))) (hs_asg (ds := startD 10 [h.enc, encTwo r s, .str (kindS rs)]) 3 sc_ways.nd (pd_fn (ok_first_both T) hr ⟨h, ho, rfl, rfl⟩ (ad_cons (pd_name 0) ad_nil)) (fun σ H q => by obtain ⟨rfl, rfl⟩ := q; exact L0) (fun σ H v H' q e dv => by obtain ⟨rfl, rfl⟩ := q; exact ⟨e, (L0.up e).set 3 dv⟩)) ?_
  refine hs_cons (M := IW w K H0 h r s rs 0) (ps_imp (ps_par (i := 4) (j := 5) rfl sc_ways.nd rfl rfl (by decide) rfl rfl (pa_cons (po_disp1 (ds := (startD 10 [h.enc, encTwo r s, .str (kindS rs)]).set 3 (some (first h).enc)) (p := first h) (d := .tuple []) hr.units (pd_name 3) (pd_tup ad_nil (by exact lle rfl)) rfl) (pa_cons (po_lst (ds := (startD 10 [h.enc, encTwo r s, .str (kindS rs)]).set 3 (some (first h).enc)) (ad_cons (pd_name 3) ad_nil) (by exact lle rfl)) pa_nil)) rfl rfl) fun D σ H q => ?_) ?_
  · obtain ⟨⟨e0, L⟩, hN, _⟩ := q
    refine ⟨L, fun H1 v1 H2 e1 o1 => ⟨L.up (e1.trans o1.1), fun H3 v2 H4 e3 o2 => ⟨v1, v2, rfl, hN _ _ ?_⟩⟩⟩
    obtain ⟨x1, a, rfl, na, T1⟩ := o1
    obtain ⟨x2, q, vs, rfl, nq, hq, dq⟩ := o2
    have ee := ((e1.trans x1).trans e3).trans x2
    refine ⟨e0.trans ee, ?_, ⟨a, set_ne (by decide) (set_eq (by rw [L.1]; exact lle rfl)), ex_none (e0.trans e1) na⟩, q, vs, ⟨set_eq (by rw [List.length_set, L.1]; exact lle rfl), hq, dq⟩⟩
    exact ((L.up ee).setH 4 (.inr ⟨[(first h, .tuple [])], a, rfl, rfl, (T1.up e3).up x2⟩)).set 5 (.lst (.inl (.inl hq)) dq)
  refine hs_cons (M := IW w K H0 h r s rs n) ?_ ?_
  · refine hp_while (IW w K H0 h r s rs) (fun k => n - k) (fun k => !(bst h r s rs k).2.isEmpty) (fun k => wds h r s rs (bst h r s rs k).1 (some (.list ((bst h r s rs k).2.map Pr.enc))) none none none none) nox_xe (fun σ H q => ⟨0, q⟩) (fun k σ H q => q.lc) (fun k σ H H' q e => q.up e) (fun k _ => ?_) (fun k hk => ?_) (fun k σ H hk q => ?_)
    · refine pt_eq (pt_neD hr.units (pd_name 5) (pd_lst ad_nil (by exact lle rfl)) ((shp_mapL (n := 2) fun p _ => shp_pr p).ok (by decide)) sh_nilL) ?_
      show (!PyData.eqv (.list _) (.list [])) = _
      rw [eqv_nilL, List.isEmpty_map]
    · -- one round
      refine hs_pre fun σ1 H1 q1 => ?_
      obtain ⟨l, ws, Ll⟩ := q1.li
      have hkn : k < n := by
        rcases Nat.lt_or_ge k n with z | z
        · exact z
        · have hd : (bst h r s rs n).2 = [] := by rw [bst, wo.eq]; exact wo.done
          have := bfs_done hd (k - n)
          rw [show n + (k - n) = k by omega] at this
          rw [show bst h r s rs k = _ from this, hd] at hk
          cases hk
      have hlen : (bst h r s rs (k + 1)).1.length ≤ 20000 := by
        have h1 := bfs_len (nxt := behind h r s rs) (may := mayOf h rs) (val := fun _ => rowOf) ([(first h, [])], [first h]) (show k + 1 ≤ n by omega)
        have h2 := wo.few
        rw [← wo.eq] at h2
        exact Nat.le_trans h1 h2
      -- the state between the inner statements
      refine hs_cons (M := fun σ H => σ[5]? = some (some (.ref l)) ∧ WI w K H0 h r s rs (.ref l) (bst h r s rs k).2 none none none ((bst h r s rs k).1, []) σ H) (hs_asgO (ds := wds h r s rs (bst h r s rs k).1 (some (.list ((bst h r s rs k).2.map Pr.enc))) none none none none) (O := oN K []) 6 sc_ways.nd (po_lst ad_nil (by exact lle rfl)) (fun σ H q => by obtain ⟨rfl, rfl⟩ := q; exact q1.lc) (fun σ H H2 v H3 q e o => ?_)) ?_
      · obtain ⟨rfl, rfl⟩ := q
        obtain ⟨x, q, vs, rfl, nq, hq, dq⟩ := o
        have ee := e.trans x
        refine ⟨set_ne (by decide) Ll.slot, q1.ex.trans ee, ?_, (Ll.up ee).dp, let ⟨a, b, c⟩ := q1.new4; ⟨a, set_ne (by decide) b, c⟩, q, vs, ⟨set_eq (by rw [q1.lc.1]; exact lle rfl), hq, dq⟩, ?_, ex_none (q1.ex.trans e) nq⟩
        · exact SubD.lc (.same (.same (.same (.same (.same (.skip (.same (.same (.same (.same .nil)))))))))) ((q1.lc.up ee).un 6 _)
        · rintro z
          cases z
          rw [(Ll.up e).here] at nq
          cases nq
      have hall := bst_all (r := r) (s := s) (rs := rs) ho k
      refine hs_cons (M := WI w K H0 h r s rs (.ref l) (bst h r s rs k).2 none none none (bst h r s rs (k + 1))) ?_ ?_
      · refine hp_forG (items := (bst h r s rs k).2) (en := Pr.enc) 7 (fun v i σ H => v = .ref l ∧ WI w K H0 h r s rs (.ref l) (bst h r s rs k).2 none none none (((bst h r s rs k).2.take i).foldl (visP (behind h r s rs) (mayOf h rs) rowOf) ((bst h r s rs k).1, [])) σ H)
          (fun v i p σ H => v = .ref l ∧ WI w K H0 h r s rs (.ref l) (bst h r s rs k).2 (some p.enc) none none (((bst h r s rs k).2.take i).foldl (visP (behind h r s rs) (mayOf h rs) rowOf) ((bst h r s rs k).1, [])) σ H)
          nox_xe rfl sc_ways.nd (pi_list (pe_var (i := 5) rfl (Or.inl rfl) (by decide) (by decide))) (fun σ H R' q c => ?_) (fun v σ H q => ?_) (fun v i p σ H u H2 hi q e du => ⟨q.1, (q.2.up e).set (by decide) du rfl⟩) (fun v i p hi => ?_)
        · have hd := q.2.lay
          refine ⟨_, q.1, l, rfl, ?_, c _ (.ref l) H (fun i σ1 H1 hI => walks_list hI.2.lay) ⟨rfl, by simpa using q.2⟩⟩
          cases hd with
          | lst hs _ => exact ⟨_, hs⟩
        · have := q.2
          rw [List.take_length] at this
          exact this
        · -- one state
          refine hs_pre fun σ2 H2 q2 => ?_
          obtain ⟨rfl, q2⟩ := q2
          have hmem : p ∈ (bst h r s rs k).2 := List.mem_of_getElem? hi
          have gp : StG h rs p := hall.1.2 p hmem
          have pin : hasK (bst h r s rs k).1 p = true := hall.2 p hmem
          generalize est : ((bst h r s rs k).2.take i).foldl (visP (behind h r s rs) (mayOf h rs) rowOf) ((bst h r s rs k).1, []) = st at q2
          have gst : Grows ((bst h r s rs k).1, []) st := est ▸ foldl_grows visP_grows _ _
          have gnx : Grows (visP (behind h r s rs) (mayOf h rs) rowOf st p) (bst h r s rs (k + 1)) := by
            have := foldl_part (visP_grows (nxt := behind h r s rs) (may := mayOf h rs) (val := rowOf)) (bst h r s rs k).2 (i + 1) ((bst h r s rs k).1, [])
            rw [foldl_take _ _ hi, est] at this
            exact this
          have cst : st.1.length = (bst h r s rs k).1.length + st.2.length := est ▸ fold_keep (fun z : Bs (List Int) => z.1.length = (bst h r s rs k).1.length + z.2.length) (fun z p _ hz => fold_keep (fun z : Bs (List Int) => z.1.length = (bst h r s rs k).1.length + z.2.length) (fun z f _ hz => vis1_count hz) z hz) _ (by simp)
          refine hs_one (hp_conseq (hp_forO1 (O := oN K ((mayOf h rs p).map .int)) (d := .list ((mayOf h rs p).map .int)) (ds := wds h r s rs st.1 none none (some p.enc) none none) 8 (mayOf h rs p) .int
            (fun v2 j σ H => (WI w K H0 h r s rs (.ref l) (bst h r s rs k).2 (some p.enc) none none (((mayOf h rs p).take j).foldl (vis1 (behind h r s rs) rowOf p) st) σ H) ∧ ∃ pp ws, v2 = .ref pp ∧ H pp = some (.lst ws) ∧ DpAll K H ws ((mayOf h rs p).map .int))
            (fun v2 j f σ H => (WI w K H0 h r s rs (.ref l) (bst h r s rs k).2 (some p.enc) (some (.int f)) none (((mayOf h rs p).take j).foldl (vis1 (behind h r s rs) rowOf p) st) σ H) ∧ ∃ pp ws, v2 = .ref pp ∧ H pp = some (.lst ws) ∧ DpAll K H ws ((mayOf h rs p).map .int))
            nox_xe rfl sc_ways.nd (wv_listO (po_call (ok_fares T) hr ⟨h, rs, p, Nat.le_trans ho.n4 (by decide), gp.2.2, rfl, rfl⟩ (ah_d (ad_cons (pd_name 0) (ad_cons (pd_name 2) (ad_cons (pd_name 7) ad_nil))))))
            (fun σ H q => by obtain ⟨rfl, rfl⟩ := q; exact q2.lc) (fun σ H H1 v H' q e o => ?_) (fun v2 j σ H q => ?_) (N := WI w K H0 h r s rs (.ref l) (bst h r s rs k).2 (some p.enc) none none (visP (behind h r s rs) (mayOf h rs) rowOf st p)) (fun v2 σ H q => ?_)
            (fun v2 j f σ H u H2 hj q e du => ⟨(q.1.up e).set (by decide) du rfl, let ⟨pp, ws, a, b, c⟩ := q.2; ⟨pp, ws, a, e _ _ b, c.up e⟩⟩) (fun v2 j f hj => ?_)) (fun σ H q => q) (fun σ H q => ?_))
          · obtain ⟨rfl, rfl⟩ := q
            obtain ⟨e2, pp, ws, rfl, _, a, b⟩ := o
            exact ⟨by simpa using q2.up (e.trans e2), pp, ws, rfl, a, b⟩
          · obtain ⟨pp, ws, rfl, a, b⟩ := q.2
            exact .lst (.inl (.inl a)) b
          · have := q.1
            rw [List.take_length] at this
            exact this
          · -- one call
            refine hs_pre fun σ3 H3 q3 => ?_
            obtain ⟨q3, pp, ws, rfl, hpp, dpp⟩ := q3
            have fmem : f ∈ mayOf h rs p := List.mem_of_getElem? hj
            have fne : mayOf h rs p ≠ [] := List.ne_nil_of_mem fmem
            obtain ⟨fn, rfl, hfn⟩ := may_lt fmem
            generalize est2 : ((mayOf h rs p).take j).foldl (vis1 (behind h r s rs) rowOf p) st = st2 at q3
            have g2 : Grows st st2 := est2 ▸ foldl_grows (vis1_grows p) _ _
            have gnx2 : Grows (vis1 (behind h r s rs) rowOf p st2 fn) (visP (behind h r s rs) (mayOf h rs) rowOf st p) := by
              have := foldl_part (vis1_grows (nxt := behind h r s rs) (val := rowOf) p) (mayOf h rs p) (j + 1) st
              rw [foldl_take _ _ hj, est2] at this
              exact this
            have cst2 : st2.1.length = (bst h r s rs k).1.length + st2.2.length := est2 ▸ fold_keep (fun z : Bs (List Int) => z.1.length = (bst h r s rs k).1.length + z.2.length) (fun z f _ hz => vis1_count hz) _ cst
            have l2 : st2.1.length ≤ 20000 := Nat.le_trans (grows_len (vis1_grows (nxt := behind h r s rs) (val := rowOf) p st2 fn)) (Nat.le_trans (grows_len gnx2) (Nat.le_trans (grows_len gnx) hlen))
            have pin2 : hasK st2.1 p = true := grows_has g2 (grows_has gst pin)
            obtain ⟨row, hrow⟩ := Option.isSome_iff_exists.mp pin2
            have hok := step_ok (rs := rs) ho gp hfn wo.r_ok wo.s_ok wo.r3 wo.s3
            have enext : ((mayOf h rs p).take (j + 1)).foldl (vis1 (behind h r s rs) rowOf p) st = vis1 (behind h r s rs) rowOf p st2 fn := by rw [foldl_take _ _ hj, est2]
            refine hs_conseq (N := fun σ H => (WI w K H0 h r s rs (.ref l) (bst h r s rs k).2 (some p.enc) (some (.int fn)) (some (behind h r s rs p fn).enc) (vis1 (behind h r s rs) rowOf p st2 fn) σ H) ∧ H pp = some (.lst ws) ∧ DpAll K H ws ((mayOf h rs p).map .int)) ?_ (fun σ H q => q) (fun σ H q => ?_)
            · refine hs_cons (M := fun σ H => (WI w K H0 h r s rs (.ref l) (bst h r s rs k).2 (some p.enc) (some (.int fn)) (some (behind h r s rs p fn).enc) st2 σ H) ∧ H pp = some (.lst ws) ∧ DpAll K H ws ((mayOf h rs p).map .int))
                (hs_asg (ds := wds h r s rs st2.1 none none (some p.enc) (some (.int fn)) none) 9 sc_ways.nd (pd_fn (ok_behind_both T) hr ⟨h, r, s, rs, p, fn, hok.1, hok.2, rfl, rfl⟩ (ad_cons (pd_name 0) (ad_cons (pd_name 1) (ad_cons (pd_name 2) (ad_cons (pd_name 7) (ad_cons (pd_name 8) ad_nil))))))
                  (fun σ H q => by obtain ⟨rfl, rfl⟩ := q; exact q3.lc) (fun σ H v H' q e dv => by obtain ⟨rfl, rfl⟩ := q; exact ⟨(q3.up e).set (by decide) dv rfl, e _ _ hpp, dpp.up e⟩)) ?_
              refine hs_one (hs_if (k := !hasK st2.1 (behind h r s rs p fn)) (ds := wds h r s rs st2.1 none none (some p.enc) (some (.int fn)) (some (behind h r s rs p fn).enc)) (pt_eq (pt_notInTab hr.units (pd_name 9) (ph_name 4)) (by rw [kvD_in])) (fun σ H q => q.1.lc) (fun σ H H' q e => ⟨q.1.up e, e _ _ q.2.1, q.2.2.up e⟩) (fun hk => ?_) (fun hk => ?_))
              · have hnew : hasK st2.1 (behind h r s rs p fn) = false := by simpa using hk
                have ev : vis1 (behind h r s rs) rowOf p st2 fn = (st2.1 ++ [(behind h r s rs p fn, rowOf st2.1 p fn)], st2.2 ++ [behind h r s rs p fn]) := by
                  unfold vis1
                  rw [hnew]
                  rfl
                have hr2 : row.length ≤ 20000 := by
                  have h1 := (fold_keep (g := vis1 (behind h r s rs) rowOf p) (l := (mayOf h rs p).take j) RowsLt (fun z f _ hz => vis1_rows hz) st (est ▸ fold_keep RowsLt (fun z p _ hz => fold_keep RowsLt (fun z f _ hz => vis1_rows hz) z hz) _ (bfs_rows (fun q hq => by simp at hq; subst hq; simp) k)))
                  rw [est2] at h1
                  exact Nat.le_trans (h1 _ (lookup_mem hrow)) l2
                have erow : rowOf st2.1 p fn = row ++ [(fn : Int)] := by
                  unfold rowOf
                  rw [hrow]
                  rfl
                have ekv : KvD (st2.1 ++ [(behind h r s rs p fn, rowOf st2.1 p fn)]) = KvD st2.1 ++ [(behind h r s rs p fn, encL (rowOf st2.1 p fn))] := by simp [KvD]
                refine hs_cons (M := fun σ H => (WI w K H0 h r s rs (.ref l) (bst h r s rs k).2 (some p.enc) (some (.int fn)) (some (behind h r s rs p fn).enc) (st2.1 ++ [(behind h r s rs p fn, rowOf st2.1 p fn)], st2.2) σ H) ∧ H pp = some (.lst ws) ∧ DpAll K H ws ((mayOf h rs p).map .int))
                  (hp_put (ds := wds h r s rs st2.1 none none (some p.enc) (some (.int fn)) (some (behind h r s rs p fn).enc)) (kvs := KvD st2.1) (p := behind h r s rs p fn) (d := encL (rowOf st2.1 p fn)) 4 hr.units (pd_name 9)
                    (pd_eq (pd_tup (ad_star (xs := row.map .int) (pd_getTab hr.units (ph_name 4) (pd_name 7) (by rw [lookup_map, hrow]; rfl)) (ad_cons (pd_name 8) ad_nil)) (by rw [List.length_append, List.length_map]; exact Nat.le_trans (Nat.add_le_add_right hr2 _) (lle rfl))) (by rw [erow]; simp [encL]; rfl))
                    rfl (by rw [kvD_in]; exact hnew) (pure_encL _) (kvD_pure _) (by rw [List.length_map]; omega) (fun σ H q => q.1.lc) (fun σ H a H1 H2 q e es T ae T' => ?_)) (hs_one (hp_append (ds := wds h r s rs (st2.1 ++ [(behind h r s rs p fn, rowOf st2.1 p fn)]) none none (some p.enc) (some (.int fn)) (some (behind h r s rs p fn).enc)) 6 (pd_name 9) (fun σ H q => q.1.lc) (fun σ H q => ?_)))
                · obtain ⟨x, y, z⟩ := q
                  have x1 := x.up e
                  obtain ⟨a0, e4, n4⟩ := x1.new4
                  rw [es] at e4
                  cases e4
                  obtain ⟨q, vs, L, ne, nq⟩ := x1.li
                  obtain ⟨φ, hφ⟩ := ae.was
                  have qa : q ≠ a := by
                    rintro rfl
                    rw [L.here] at hφ
                    cases hφ
                  have y1 := e _ _ y
                  have pa : pp ≠ a := by
                    rintro rfl
                    rw [y1] at hφ
                    cases hφ
                  refine ⟨⟨ex_ext x1.ex ae n4, ?_, dp_ext ae _ x1.lay, ⟨a, es, n4⟩, q, vs, ⟨L.slot, (ae.but q qa).trans L.here, dpa_ext ae _ L.data⟩, ne, nq⟩, (ae.but pp pa).trans y1, dpa_ext ae _ (z.up e)⟩
                  have lp := Lc.put x1.lc ae es T' rfl
                  rw [← ekv] at lp
                  exact lp
                · obtain ⟨x, y, z⟩ := q
                  obtain ⟨q, vs, L, ne, nq⟩ := x.li
                  have hvl : vs.length = st2.2.length := by rw [dpa_len L.data, List.length_map]
                  refine ⟨q, vs, L.slot, L.here, by omega, fun v H1 e dv => ?_⟩
                  have x1 := x.up e
                  have L1 := L.up e
                  have al : AtLst q H1 (upd H1 q (.lst (vs ++ [v]))) := ⟨⟨_, L1.here⟩, fun b hb => upd_ne hb⟩
                  have y1 := e _ _ y
                  have z1 := z.up e
                  have pq : pp ≠ q := fun e' => ints_ne ⟨pp, ws, rfl, y1, z1⟩ fne L1 (by rw [e'])
                  rw [ev]
                  refine ⟨⟨Evl.Ex.mut x1.ex nq, x1.lc.lput al (wds_pu (fun d e => by cases e; exact pure_pr p) (fun d e => by cases e; exact pure_int _) (fun d e => by cases e; exact pure_pr _)), lst_other al (fun e' => ne (by rw [e'])) (pureAll_map fun a _ => pure_pr a) x1.lay, x1.new4, q, vs ++ [v], ⟨L1.slot, upd_same, ?_⟩, ne, nq⟩, (upd_ne pq).trans y1, dpa_upT al.exT _ (pureAll_map fun a _ => pure_int a) z1⟩
                  rw [List.map_append]
                  exact dpa_append (dpa_upT al.exT _ (pureAll_map fun a _ => pure_pr a) L1.data) (.cons (dv.upT (pure_pr _) al.exT) .nil)
              · have hold : hasK st2.1 (behind h r s rs p fn) = true := by simpa using hk
                have ev : vis1 (behind h r s rs) rowOf p st2 fn = st2 := by
                  unfold vis1
                  rw [if_pos hold]
                rw [ev]
                exact hs_nil
            · rw [enext]
              exact ⟨q.1.sub (.same (.same (.same (.same (.same (.same (.same (.same (.skip (.skip .nil)))))))))), pp, ws, rfl, q.2.1, q.2.2⟩
          · rw [foldl_take _ _ hi, est]
            exact ⟨rfl, q.sub (.same (.same (.same (.same (.same (.same (.same (.skip (.same (.same .nil))))))))))⟩
      · have hl2 : decide ((20000 : Int) < ((KvD (bst h r s rs (k + 1)).1).length : Nat)) = false := by
          rw [List.length_map]
          exact decide_eq_false (by omega)
        refine hs_cons (M := WI w K H0 h r s rs (.ref l) (bst h r s rs k).2 none none none (bst h r s rs (k + 1))) (hs_if (k := false) (ds := wds h r s rs (bst h r s rs (k + 1)).1 none none none none none) (pt_eq (pt_gt (pd_lenTab T.f_len (ph_name 4)) (pd_gint T.i_MOST_PAIRS)) hl2) (fun σ H q => q.lc) (fun σ H H' q e => q.up e) (fun h => nomatch h) (fun _ => hs_nil)) ?_
        refine hs_one (ps_imp (ps_set (i := 5) sc_ways.nd rfl (.inl rfl) (pe_var (i := 6) rfl (Or.inl rfl) (by decide) (by decide)) rfl (.inr rfl)) fun D σ H q => ?_)
        obtain ⟨x, hN, _⟩ := q
        obtain ⟨q, vs, L, ne, nq⟩ := x.li
        refine ⟨_, L.slot, hN _ _ ⟨k + 1, by omega, x.ex, ?_, let ⟨a, b, c⟩ := x.new4; ⟨a, set_ne (by decide) b, c⟩, q, vs, ⟨set_eq (by rw [x.lc.1]; exact lle rfl), L.here, L.data⟩⟩⟩
        exact x.lc.set 5 L.dp
    · have hd : (bst h r s rs k).2 = [] := by simpa using hk
      have e : bst h r s rs n = bst h r s rs k := by
        rcases Nat.le_total k n with z | z
        · have := bfs_done hd (n - k)
          rw [show k + (n - k) = n by omega] at this
          exact this
        · have hd' : (bst h r s rs n).2 = [] := by rw [bst, wo.eq]; exact wo.done
          have := bfs_done hd' (k - n)
          rw [show n + (k - n) = k by omega] at this
          exact this.symm
      exact ⟨q.ex, by rw [e]; exact q.lc, q.new4, by rw [e]; exact q.li⟩
  · refine hs_one (ps_imp (ps_ret (ph_name (ds := wds h r s rs (bst h r s rs n).1 (some (.list ((bst h r s rs n).2.map Pr.enc))) none none none none) 4)) fun D σ H q => ⟨q.1.lc, fun v H' e hd => q.2.2 v H' ⟨q.1.ex.trans e, ?_⟩⟩)
    rw [← wo.eq]
    exact hd
end
end G33
set_option Elab.async false
set_option linter.all false
set_option maxRecDepth 100000
set_option maxHeartbeats 4000000
namespace G33
open PySem PySem.Spec PyProof.Rows L2
def encW (q : Ru × List Int) : PyData := .tuple [q.1.enc, encL q.2]
def subR : Ru → Int → Ru
  | .two _ r s, i => if i = 1 then r else s
  | .oust r _, _ => r
  | r, _ => r
def kids (q : Ru × List Int) : List (Ru × List Int) := (partsD q.1).reverse.map fun i => (subR q.1 i, q.2 ++ [i])
structure QOk (h : Hall) (q : Ru × List Int) : Prop where
  word : (q.2 = [] ∧ q.1.Ok h) ∨ (q.2 ≠ [] ∧ q.1.In h)
  deep : q.2.length + q.1.deep ≤ 3
theorem QOk.wordOk {h : Hall} {q : Ru × List Int} (x : QOk h q) : WordOk h q.1 q.2.isEmpty := by
  obtain ⟨r, p⟩ := q
  rcases x.word with ⟨e, o⟩ | ⟨e, o⟩
  · simp only at e
    subst e
    cases r with
    | plain w l => exact o
    | two b r s => trivial
    | oust r f => exact ⟨rfl, o.2⟩
  · cases r with
    | plain w l => exact o
    | two b r s => trivial
    | oust r f => exact o.elim
theorem QOk.kids {h : Hall} {q : Ru × List Int} (x : QOk h q) : ∀ y ∈ kids q, QOk h y := by
  obtain ⟨r, p⟩ := q
  have hd := x.deep
  intro y hy
  cases r with
  | plain w l => simp [G33.kids, partsD] at hy
  | two b r s =>
    have hin : r.In h ∧ s.In h := by
      rcases x.word with ⟨_, o⟩ | ⟨_, o⟩ <;> exact o
    simp only [Ru.deep] at hd
    simp [G33.kids, partsD, subR] at hy
    rcases hy with rfl | rfl
    · exact ⟨.inr ⟨by simp, hin.2⟩, by simp; omega⟩
    · exact ⟨.inr ⟨by simp, hin.1⟩, by simp; omega⟩
  | oust r f =>
    have hin : r.In h := by
      rcases x.word with ⟨_, o⟩ | ⟨_, o⟩
      · exact o.1
      · exact o.elim
    simp only [Ru.deep] at hd
    simp [G33.kids, partsD, subR] at hy
    subst hy
    exact ⟨.inr ⟨by simp, hin⟩, by simp; omega⟩
def sizes (l : List (Ru × List Int)) : Nat := (l.map fun q => q.1.size).sum
theorem sizes_append (a b : List (Ru × List Int)) : sizes (a ++ b) = sizes a + sizes b := by simp [sizes]
theorem sizes_kids (q : Ru × List Int) : sizes (kids q) + 1 = q.1.size := by
  obtain ⟨r, p⟩ := q
  cases r <;> simp [kids, sizes, partsD, subR, Ru.size] <;> omega
theorem size_pos (r : Ru) : 1 ≤ r.size := by cases r <;> simp [Ru.size] <;> omega
theorem length_sizes : ∀ l : List (Ru × List Int), l.length ≤ sizes l
  | [] => by simp
  | q :: l => by
    have h1 := length_sizes l
    have h2 := size_pos q.1
    simp only [sizes, List.map_cons, List.sum_cons, List.length_cons] at h1 ⊢
    omega
theorem pure_encW (q : Ru × List Int) : pure (encW q) = true := by
  have := pure_encL q.2
  simp only [encL, pure] at this
  simp [encW, encL, pure, pureAll, pure_ru, this]
theorem shp_encW (q : Ru × List Int) : Shp (q.1.deep + 3) (encW q) := shp_tup fun x hx => by
  simp only [List.mem_cons, List.not_mem_nil, or_false] at hx
  rcases hx with rfl | rfl
  · exact shp_ru _
  · exact shp_encL _
section
variable {P : Program} {w : World} {K : PySem.W.Frag} {mg : Str → Option Value} {base : Heap}
abbrev N_need_rule : List Str := ["hall", "rule", "waiting", "many", "here", "path", "spot"]
theorem sc_need_rule : FnScope N_need_rule ["hall", "rule"] (defScope (top 30)) := ⟨rfl, rfl, rfl, by decide +kernel, rfl, by decide +kernel, by decide +kernel⟩
structure RuOk (h : Hall) (r : Ru) : Prop where
  ok : r.Ok h
  deep : r.deep ≤ 3
  size : r.size ≤ 7
def R_need_rule : List PyData → PyData → Prop := fun dl d => ∃ (h : Hall) (r : Ru), h.Ok ∧ RuOk h r ∧ dl = [h.enc, r.enc] ∧ d = r.enc
def nds (h : Hall) (r : Ru) (o2 : Option PyData) (m : Int) (o4 o5 : Option PyData) : Ds := [some h.enc, some r.enc, o2, some (.int m), o4, o5, none]
structure NI (w : World) (K : PySem.W.Frag) (H0 : Hp) (h : Hall) (r : Ru) (a : List (Ru × List Int) × Nat) (σ : L2.St) (H : Hp) : Prop where
  ex : Ex H0 H
  lc : Lc w K H σ (nds h r (some (.list (a.1.map encW))) a.2 none none)
  li : ∃ q vs, LiA K H σ 2 q vs (a.1.map encW) ∧ H0 q = none
  ok : ∀ q ∈ a.1, QOk h q
  sz : sizes a.1 + a.2 ≤ 7
theorem NI.up {H0 H H' : Hp} {h : Hall} {r : Ru} {a : List (Ru × List Int) × Nat} {σ : L2.St} (x : NI w K H0 h r a σ H) (e : Ex H H') : NI w K H0 h r a σ H' := ⟨x.ex.trans e, x.lc.up e, let ⟨q, vs, a, b⟩ := x.li; ⟨q, vs, a.up e, b⟩, x.ok, x.sz⟩
/-- between pop and extend -/
structure NJ (w : World) (K : PySem.W.Frag) (H0 : Hp) (h : Hall) (r : Ru) (st : List (Ru × List Int)) (m : Int) (t : Ru × List Int) (σ : L2.St) (H : Hp) : Prop where
  ex : Ex H0 H
  lc : Lc w K H σ (nds h r none m (some t.1.enc) (some (encL t.2)))
  li : ∃ q vs, LiA K H σ 2 q vs (st.map encW) ∧ H0 q = none
theorem NJ.up {H0 H H' : Hp} {h : Hall} {r : Ru} {st : List (Ru × List Int)} {m : Int} {t : Ru × List Int} {σ : L2.St} (x : NJ w K H0 h r st m t σ H) (e : Ex H H') : NJ w K H0 h r st m t σ H' := ⟨x.ex.trans e, x.lc.up e, let ⟨q, vs, a, b⟩ := x.li; ⟨q, vs, a.up e, b⟩⟩
theorem nds_pu {h : Hall} {r : Ru} {m : Int} {o4 o5 : Option PyData} (h4 : ∀ d, o4 = some d → pure d = true) (h5 : ∀ d, o5 = some d → pure d = true) : PuD (nds h r none m o4 o5) := by
  have one : ∀ {o : Option PyData} {ds : Ds}, (∀ d, o = some d → pure d = true) → PuD ds → PuD (o :: ds) := fun {o ds} ho hd => by
    cases o with
    | none => exact .n hd
    | some d => exact .p (ho d rfl) hd
  exact .p (pure_hall h) (.p (pure_ru r) (.n (.p (pure_int _) (one h4 (one h5 (.n .nil))))))
theorem ok_need_rule (T : Fx K mg) : OkF P w K mg base 5 "need_rule" ["hall", "rule"] (spD K 2 R_need_rule) := by
  refine mk_ok T 6 rfl sc_need_rule rfl (fun _ _ _ _ _ _ us hl => match us, hl with | [_, _], _ => rfl) fun cdv A outer sh H E hr dl d hR _ => ?_
  obtain ⟨h, r, ho, ⟨hrok, hd3, hs7⟩, rfl, rfl⟩ := hR
  refine sr_expr (pd_fn (ok_need_hall T) hr ⟨h, ho, rfl, rfl⟩ (ad_cons (pd_name 0) ad_nil)) ?_
  refine sr_h fun σ0 H0 L0 => ?_
  refine hs_cons (M := NI w K H0 h r ([(r, [])], 0)) (ps_imp (ps_par (i := 2) (j := 3) rfl sc_need_rule.nd rfl rfl (by decide) rfl rfl (pa_cons (po_lst (ds := startD 7 [h.enc, r.enc]) (ad_cons (pd_tup (ad_cons (pd_name 1) (ad_cons (pd_tup ad_nil (by exact lle rfl)) ad_nil)) (by exact lle rfl)) ad_nil) (by exact lle rfl)) (pa_cons pe_int pa_nil)) rfl rfl) fun D σ H q => ?_) ?_
  · obtain ⟨⟨rfl, rfl⟩, hN, _⟩ := q
    refine ⟨L0, fun H1 v H2 e o => ⟨v, .int 0, rfl, hN _ _ ?_⟩⟩
    obtain ⟨x, q, vs, rfl, nq, hq, dq⟩ := o
    have ee := e.trans x
    refine ⟨ee, ((L0.up ee).set 2 (.lst (.inl (.inl hq)) dq)).set 3 (.int 0), ⟨q, vs, ⟨set_ne (by decide) (set_eq (by rw [L0.1]; exact lle rfl)), hq, dq⟩, ex_none e nq⟩, fun y hy => ?_, ?_⟩
    · simp at hy
      subst hy
      exact ⟨.inl ⟨rfl, hrok⟩, by simpa using hd3⟩
    · simpa [sizes] using hs7
  refine hs_cons (M := fun σ H => ∃ m, NI w K H0 h r ([], m) σ H) ?_ ?_
  · refine hp_while (NI w K H0 h r) (fun a => sizes a.1) (fun a => !a.1.isEmpty) (fun a => nds h r (some (.list (a.1.map encW))) a.2 none none) nox_xe (fun σ H q => ⟨_, q⟩) (fun k σ H q => q.lc) (fun k σ H H' q e => q.up e) (fun a hi => ?_) (fun a ha => ?_) (fun a σ H hk q => ?_)
    · obtain ⟨σ1, H1, q⟩ := hi
      refine pt_eq (pt_neD hr.units (pd_name 2) (pd_lst ad_nil (by exact lle rfl)) ((shp_mapL (n := 6) fun y hy => (shp_encW y).le (by have := (q.ok y hy).deep; omega)).ok (by decide)) sh_nilL) ?_
      show (!PyData.eqv (.list _) (.list [])) = _
      rw [eqv_nilL, List.isEmpty_map]
    · refine hs_pre fun σ1 H1 q1 => ?_
      obtain ⟨st, m⟩ := a
      have hne : st ≠ [] := by
        intro z
        subst z
        cases ha
      obtain ⟨st', t, rfl⟩ : ∃ st' t, st = st' ++ [t] := ⟨st.dropLast, st.getLast hne, (List.dropLast_concat_getLast hne).symm⟩
      have tok := q1.ok t (by simp)
      have hsz := q1.sz
      have hsize := size_pos t.1
      simp only [sizes_append] at hsz
      have ht1 : sizes [t] = t.1.size := by simp [sizes]
      have hl := length_sizes st'
      have hkn : (partsD t.1).length ≤ 2 := by cases t.1 <;> simp [partsD]
      refine hs_cons (M := NJ w K H0 h r st' m t) (ps_imp (ps_asg (pe_bm0 PySem.F.plainAttrs_list PySem.F.slot_list_pop PySem.F.type_list_pop mt_pop (pe_var (i := 2) rfl (Or.inl rfl) (by decide) (by decide))) (pg_tup rfl (pgs_cons (pg_name (i := 4) sc_need_rule.nd rfl (by first | exact .inl rfl | exact .inr rfl)) (pgs_cons (pg_name (i := 5) sc_need_rule.nd rfl (by first | exact .inl rfl | exact .inr rfl)) pgs_nil)))) fun D σ H q => ?_) ?_
      · obtain ⟨⟨rfl, rfl⟩, hN, _⟩ := q
        obtain ⟨q, vs, L, nq⟩ := q1.li
        have hvl : vs.length = st'.length + 1 := by rw [dpa_len L.data]; simp
        obtain ⟨y, hy, dy⟩ := dpa_get (i := st'.length) (d := encW t) L.data (by simp)
        refine ⟨.ref q, L.slot, .inl ⟨rfl, vs, .inl (.inl L.here)⟩, q, vs, y, rfl, rfl, L.here, by rw [hvl]; simpa using hy, ?_⟩
        have al : AtLst q H (upd H q (.lst vs.dropLast)) := ⟨⟨_, L.here⟩, fun b hb => upd_ne hb⟩
        have dy2 := dy.upT (pure_encW t) al.exT
        cases dy2 with
        | tup hs hd =>
          cases hd with
          | cons g1 hd =>
            cases hd with
            | cons g2 hd =>
              cases hd
              refine ⟨_, _, rfl, hs, rfl, _, _, rfl, _, _, rfl, rfl, hN _ _ ⟨Evl.Ex.mut q1.ex nq, ?_, q, vs.dropLast, ⟨set_ne (by decide) (set_ne (by decide) L.slot), upd_same, ?_⟩, nq⟩⟩
              · have L2 : Lc w K (upd H q (.lst vs.dropLast)) σ (nds h r none m none none) := Lc.lput (SubD.lc (.same (.same (.skip (.same (.same (.same (.same .nil))))))) q1.lc) al (nds_pu (fun d e => nomatch e) fun d e => nomatch e)
                exact (L2.set 4 g1).set 5 g2
              · have := dpa_take st'.length L.data
                rw [List.map_append, List.take_left' (by simp)] at this
                have ed : vs.dropLast = vs.take st'.length := by rw [List.dropLast_eq_take, hvl]; rfl
                have th := dpa_upT al.exT _ (pureAll_map fun a _ => pure_encW a) this
                rw [← ed] at th
                exact th
      refine hs_cons (M := NJ w K H0 h r st' (m + 1) t) (ps_imp (ps_aug (i := 3) sc_need_rule.nd rfl (.inl rfl) pe_int ip_add) fun D σ H q => ?_) ?_
      · obtain ⟨x, hN, _⟩ := q
        obtain ⟨u, e3, hu⟩ := x.lc.2 3 (.int m) rfl
        have hu' := hu.dp rfl
        cases hu'
        refine ⟨_, e3, _, _, rfl, rfl, hN _ _ ⟨x.ex, x.lc.set 3 (.int _), let ⟨q, vs, L, nq⟩ := x.li; ⟨q, vs, ⟨set_ne (by decide) L.slot, L.here, L.data⟩, nq⟩⟩⟩
      refine hs_cons (M := NJ w K H0 h r st' (m + 1) t) (hs_if (k := false) (ds := nds h r none (m + 1) (some t.1.enc) (some (encL t.2))) (pt_eq (w_t (wt_or (pt_gt (pd_name 3) (pd_gint T.i_MOST_WORDS)) (fun _ => wt_or (pt_gt (pd_len T.f_len (pd_name 5)) (pd_gint T.i_MOST_DEEP)) (fun _ => wt_or1 (pt_no (pt_b (pd_fn (ok_is_word T) hr ⟨h, t.1, t.2.isEmpty, ho, tok.wordOk, by have := tok.deep; omega, rfl, rfl⟩ (ad_cons (pd_name 0) (ad_cons (pd_name 4) (ad_cons (pd_eq (pd_eqD hr.units (pd_name 5) (pd_tup ad_nil (by exact lle rfl)) ((shp_encL (n := 0) t.2).ok (by decide)) sh_nilT) ?_) ad_nil)))))))))) ?_) (fun σ H q => q.lc) (fun σ H H' q e => q.up e) (fun z => nomatch z) (fun _ => hs_nil)) ?_
      · show PyData.bool (PyData.eqv (.tuple _) (.tuple [])) = _
        rw [eqv_nilT, List.isEmpty_map]
      · have h1 := tok.deep
        have e1 : decide ((7 : Int) < (m : Int) + 1) = false := decide_eq_false (by omega)
        have e2 : decide ((3 : Int) < ((t.2.map PyData.int).length : Nat)) = false := decide_eq_false (by rw [List.length_map]; omega)
        rw [e1, e2]
        rfl
      have hkid : (((partsD t.1).reverse.filter fun _ => true).map fun i => encW (subR t.1 i, t.2 ++ [i])) = (kids t).map encW := by
        rw [filter_tt, kids, List.map_map]
        rfl
      have hat : ∀ i ∈ (partsD t.1).reverse, ∃ xs, t.1.enc = .tuple xs ∧ atI xs i = some (subR t.1 i).enc := by
        intro i hi
        obtain ⟨rt, pt⟩ := t
        cases rt with
        | plain w l => simp [partsD] at hi
        | two b r1 r2 =>
          simp [partsD] at hi
          rcases hi with rfl | rfl
          · exact ⟨_, rfl, rfl⟩
          · exact ⟨_, rfl, rfl⟩
        | oust r1 f =>
          simp [partsD] at hi
          subst hi
          exact ⟨_, rfl, rfl⟩
      refine hs_one (ps_imp (ps_expr (pe_bm PySem.F.plainAttrs_list PySem.F.slot_list_extend PySem.F.type_list_extend mt_extend (pe_var (i := 2) rfl (Or.inl rfl) (by decide) (by decide))
        (pa_cons (po_lc1 (ds := nds h r none (m + 1) (some t.1.enc) (some (encL t.2))) 6 (partsD t.1).reverse .int (fun _ => true) (fun i => encW (subR t.1 i, t.2 ++ [i])) rfl sc_need_rule.nd (wd_eq (wd_list (pd_rev (pd_fn (ok_parts_of T) hr ⟨t.1, rfl, rfl⟩ (ad_cons (pd_name 4) ad_nil)))) (by rw [List.map_reverse])) (blkOk_by (N := N_need_rule) (sc := defScope (top 30)) (by decide +kernel)) (fun _ _ _ _ _ => pg_name sc_need_rule.nd rfl (.inl rfl)) (fun a _ => pure_encW _) (by rw [List.length_reverse]; omega)
          (fun a ha _ _ _ _ _ => ptd_nil) (fun a ha _ _ _ _ _ _ => ?_)) pa_nil))) fun D σ H q => ?_)
      · obtain ⟨xs, ex, hx⟩ := hat a ha
        exact pd_eq (pd_tup (ad_cons (pd_ix (pd_eq (pd_name 4) ex) (pd_name 6) hx) (ad_cons (pd_tup (ad_star (xs := t.2.map .int) (pd_name 5) (ad_cons (pd_name 6) ad_nil)) (by have := tok.deep; simp; omega)) ad_nil)) (by exact lle rfl)) (by show PyData.tuple [_, PyData.tuple (t.2.map .int ++ [.int a])] = .tuple [_, encL (t.2 ++ [a])]; simp [encL])
      · obtain ⟨x, hN, _⟩ := q
        obtain ⟨q, vs, L, nq⟩ := x.li
        refine ⟨.ref q, L.slot, .inl ⟨rfl, vs, .inl (.inl L.here)⟩, x.lc, fun H1 v H2 e o => ?_⟩
        rw [hkid] at o
        obtain ⟨x2, b, zs, rfl, nb, hb, db⟩ := o
        have ee := e.trans x2
        have L2 := L.up ee
        have hz : vs.length + zs.length ≤ 100000 := by
          rw [dpa_len L.data, dpa_len db, List.length_map, List.length_map]
          simp [kids]
          omega
        refine ⟨q, b, vs, zs, rfl, rfl, L2.here, hb, Evl.sz_of hz, hN _ _ ⟨(st' ++ kids t, m + 1), ?_, ?_⟩⟩
        · simp only [sizes_append]
          have := sizes_kids t
          omega
        · have al : AtLst q H2 (upd H2 q (.lst (vs ++ zs))) := ⟨⟨_, L2.here⟩, fun b hb => upd_ne hb⟩
          have dd : DpAll K (upd H2 q (.lst (vs ++ zs))) (vs ++ zs) ((st' ++ kids t).map encW) := by
            rw [List.map_append]
            exact dpa_append (dpa_upT al.exT _ (pureAll_map fun a _ => pure_encW a) L2.data) (dpa_upT al.exT _ (pureAll_map fun a _ => pure_encW a) db)
          have LL : LiA K (upd H2 q (.lst (vs ++ zs))) σ 2 q (vs ++ zs) ((st' ++ kids t).map encW) := ⟨L2.slot, upd_same, dd⟩
          refine ⟨Evl.Ex.mut (x.ex.trans ee) nq, ?_, ⟨q, _, LL, nq⟩, fun y hy => ?_, ?_⟩
          · have := Lc.lput (x.lc.up ee) al (nds_pu (fun d e => by cases e; exact pure_ru _) fun d e => by cases e; exact pure_encL _)
            have lw : Lc w K (upd H2 q (.lst (vs ++ zs))) σ (nds h r none (m + 1) none none) := SubD.lc (.same (.same (.same (.same (.skip (.skip (.same .nil))))))) this
            refine ⟨lw.1, fun j d hj => ?_⟩
            by_cases h2 : j = 2
            · subst h2
              cases hj
              exact ⟨_, LL.slot, .inl LL.dp⟩
            · refine lw.2 j d ?_
              rw [← hj]
              match j, h2 with
              | 0, _ => rfl
              | 1, _ => rfl
              | 3, _ => rfl
              | 4, _ => rfl
              | 5, _ => rfl
              | 6, _ => rfl
              | j + 7, _ => rfl
          · rcases List.mem_append.mp hy with hy | hy
            · exact q1.ok y (by simp [hy])
            · exact tok.kids y hy
          · simp only [sizes_append]
            have := sizes_kids t
            omega
    · obtain ⟨st, m⟩ := a
      have : st = [] := by simpa using hk
      subst this
      exact ⟨m, q⟩
  · refine hs_ex fun m => hs_one (hs_ret (ds := nds h r (some (.list (([] : List (Ru × List Int)).map encW))) m none none) (pd_name 1) (fun σ H q => q.lc) (fun σ H v H' q e dv => ⟨q.ex.trans e, dv⟩))
end
end G33
set_option Elab.async false
set_option linter.all false
set_option maxRecDepth 100000
set_option maxHeartbeats 4000000
namespace G33
open PySem PySem.Spec PyProof.Rows L2
def leads {α : Type} (h : Hall) (kv : List (Pr × α)) : List Int := kv.map fun q => lead h q.1
/-- m is the least (b) or the greatest of l -/
def Extr (b : Bool) (m : Int) (l : List Int) : Prop := m ∈ l ∧ ∀ y ∈ l, if b then m ≤ y else y ≤ m
def rowsAt (h : Hall) (kv : List (Pr × List Int)) (g : Int) : List (List Int) := (kv.filter fun q => decide (lead h q.1 = g)).map (·.2)
def parting (h : Hall) (kv : List (Pr × List Int)) : List (List Int) := (kv.filter fun q => !decide (lead h q.1 = 0)).map (·.2)
theorem rows_len {α : Type} {st : Bs (List Int)} (h : RowsLt st) (hf : st.1.length ≤ 20000) : ∀ q ∈ st.1, q.2.length ≤ 20000 := fun q hq => Nat.le_trans (h q hq) hf
structure GoOk (h : Hall) (r s : Ru) (rs : Bool) (fin : Bs (List Int)) : Prop where
  ro : RuOk h r
  so : RuOk h s
  ways : ∃ n, WaysOk h r s rs n fin
theorem GoOk.ho {h : Hall} {r s : Ru} {rs : Bool} {fin : Bs (List Int)} (g : GoOk h r s rs fin) : h.Ok := let ⟨_, w⟩ := g.ways; w.ho
theorem GoOk.few {h : Hall} {r s : Ru} {rs : Bool} {fin : Bs (List Int)} (g : GoOk h r s rs fin) : fin.1.length ≤ 20000 := let ⟨_, w⟩ := g.ways; w.few
theorem sh_kvrow (kv : List (List Int)) : SeqAt.shaped (.list (kv.map encL)) = true := (shp_mapL (n := 1) fun _ _ => shp_encL _).ok (by decide)
theorem pure_lr (i : Int) (l : List Int) : pure (.tuple [.int i, encL l]) = true := by
  have := pure_encL l
  simp only [encL, pure] at this
  simp [encL, pure, pureAll, this]
section
variable {P : Program} {w : World} {K : PySem.W.Frag} {mg : Str → Option Value} {base : Heap}
abbrev N_need_both : List Str := ["hall", "rule", "other", "kind"]
theorem sc_need_both : FnScope N_need_both ["hall", "rule", "other", "kind"] (defScope (top 58)) := ⟨rfl, rfl, rfl, by decide +kernel, rfl, by decide +kernel, by decide +kernel⟩
def R_need_both : List PyData → PyData → Prop := fun dl d => ∃ (h : Hall) (r s : Ru) (rs : Bool), h.Ok ∧ RuOk h r ∧ RuOk h s ∧ dl = [h.enc, r.enc, s.enc, .str (kindS rs)] ∧ d = encTwo r s
theorem ok_need_both (T : Fx K mg) : OkF P w K mg base 6 "need_both" ["hall", "rule", "other", "kind"] (spD K 4 R_need_both) := by
  refine mk_ok T 22 rfl sc_need_both rfl (fun _ _ _ _ _ _ us hl => match us, hl with | [_, _, _, _], _ => rfl) fun cdv A outer s H E hr dl d hR _ => ?_
  obtain ⟨h, r1, r2, rs, ho, h1, h2, rfl, rfl⟩ := hR
  exact
    (sr_expr (pd_fn (ok_need_rule T) hr ⟨h, r1, ho, h1, rfl, rfl⟩ (ad_cons (pd_name 0) (ad_cons (pd_name 1) ad_nil)))
    (sr_expr (pd_fn (ok_need_rule T) hr ⟨h, r2, ho, h2, rfl, rfl⟩ (ad_cons (pd_name 0) (ad_cons (pd_name 2) ad_nil)))
    (sr_expr (pd_fn (ok_need_kind T) hr ⟨rs, rfl, rfl⟩ (ad_cons (pd_name 3) ad_nil))
    (sr_ret (pd_tup (ad_cons (pd_name 1) (ad_cons (pd_name 2) ad_nil)) (by exact lle rfl))))))
abbrev N_lead_range : List Str := ["hall", "rule", "other", "kind", "two", "some", "both"]
theorem sc_lead_range : FnScope N_lead_range ["hall", "rule", "other", "kind"] (defScope (top 60)) := ⟨rfl, rfl, rfl, by decide +kernel, rfl, by decide +kernel, by decide +kernel⟩
def R_lead_range : List PyData → PyData → Prop := fun dl d => ∃ (h : Hall) (r s : Ru) (rs : Bool) (fin : Bs (List Int)) (lo hi : Int), GoOk h r s rs fin ∧ Extr true lo (leads h fin.1) ∧ Extr false hi (leads h fin.1) ∧ dl = [h.enc, r.enc, s.enc, .str (kindS rs)] ∧ d = .tuple [.int lo, .int hi]
theorem ok_lead_range (T : Fx K mg) : OkF P w K mg base 9 "lead_range" ["hall", "rule", "other", "kind"] (spD K 4 R_lead_range) := by
  refine mk_ok T 24 rfl sc_lead_range rfl (fun _ _ _ _ _ _ us hl => match us, hl with | [_, _, _, _], _ => rfl) fun cdv A outer sh H E hr dl d hR _ => ?_
  obtain ⟨h, r, s, rs, fin, lo, hi, g, ⟨m1, m2⟩, ⟨x1, x2⟩, rfl, rfl⟩ := hR
  obtain ⟨n, wo⟩ := g.ways
  have hf := g.few
  have hfil : ((fin.1.filter fun _ => true).map fun q => PyData.int (lead h q.1)) = (leads h fin.1).map .int := by rw [filter_tt, leads, List.map_map]; rfl
  refine
    (sr_asg 4 sc_lead_range.nd (pd_fn (ok_need_both T) hr ⟨h, r, s, rs, g.ho, g.ro, g.so, rfl, rfl⟩ (ad_cons (pd_name 0) (ad_cons (pd_name 1) (ad_cons (pd_name 2) (ad_cons (pd_name 3) ad_nil)))))
    (sr_asgL (asg_lc1 5 6 fin.1 (fun q => q.1.enc) (fun _ => true) (fun q => .int (lead h q.1)) rfl sc_lead_range.nd (wd_eq (wd_tabK (ph_o (po_call (ok_ways T) hr ⟨h, r, s, rs, n, fin, wo, rfl, rfl⟩ (ah_d (ad_cons (pd_name 0) (ad_cons (pd_name 4) (ad_cons (pd_name 3) ad_nil))))))) (by rw [List.map_map]; rfl)) (blkOk_by (N := N_lead_range) (sc := defScope (top 60)) (by decide +kernel)) (fun _ _ _ _ _ => pg_name sc_lead_range.nd rfl (.inl rfl)) (fun a ha => pureI _) (by omega) (fun a ha _ _ _ _ _ => ptd_nil) (fun a ha hf _ _ _ _ _ => (pd_fn (ok_lead_at T) hr ⟨h, a.1, g.ho, rfl, rfl⟩ (ad_cons (pd_name 0) (ad_cons (pd_name 6) ad_nil)))))
    ?_))
  rw [hfil]
  exact (sr_ret (pd_tup (ad_cons (pd_min (ns := leads h fin.1) rfl T.f_min m1 (fun y hy => by simpa using m2 y hy) (pd_name 5)) (ad_cons (pd_max (ns := leads h fin.1) rfl T.f_max x1 (fun y hy => by simpa using x2 y hy) (pd_name 5)) ad_nil)) (by exact lle rfl)))
abbrev N_extreme_of : List Str := ["hall", "ways", "is_least", "some", "goal", "both", "row", "lead"]
theorem sc_extreme_of : FnScope N_extreme_of ["hall", "ways", "is_least"] (defScope (top 61)) := ⟨rfl, rfl, rfl, by decide +kernel, rfl, by decide +kernel, by decide +kernel⟩
def RX_extreme (K : PySem.W.Frag) : List PyData → Out → Prop := fun dl O => ∃ (h : Hall) (kv : List (Pr × List Int)) (b : Bool) (g : Int) (row : List Int), h.Ok ∧ kv.length ≤ 20000 ∧ Extr b g (leads h kv) ∧ (rowsAt h kv g).head? = some row ∧ dl = [h.enc, dictD (KvD kv), .bool b] ∧ O = oD K (.tuple [.int g, encL row])
theorem ok_extreme (T : Fx K mg) : OkF P w K mg base 3 "extreme_of" ["hall", "ways", "is_least"] (spX w K 3 (RX_extreme K)) := by
  refine mk_okX T 25 rfl sc_extreme_of rfl (fun _ _ _ _ _ _ us hl => match us, hl with | [_, _, _], _ => rfl) fun cdv A outer sh H E hr dl O hR _ => ?_
  obtain ⟨h, kv, b, g, row, ho, hl, ⟨x1, x2⟩, hrow, rfl, rfl⟩ := hR
  have hfil : ((kv.filter fun _ => true).map fun q => PyData.tuple [.int (lead h q.1), encL q.2]) = kv.map fun q => PyData.tuple [.int (lead h q.1), encL q.2] := by rw [filter_tt]
  refine so_d
    (sr_asgL (asg_lc2 3 5 6 kv (fun q => q.1.enc) (fun q => encL q.2) (fun _ => true) (fun q => .tuple [.int (lead h q.1), encL q.2]) (by decide) rfl sc_extreme_of.nd (wd_eq (wd_tabI (ph_name 1)) (by rw [List.map_map]; rfl)) (blkOk_by (N := N_extreme_of) (sc := defScope (top 61)) (by decide +kernel)) (fun _ _ _ _ _ => pg_tup rfl (pgs_cons (pg_name sc_extreme_of.nd rfl (.inl rfl)) (pgs_cons (pg_name sc_extreme_of.nd rfl (.inl rfl)) pgs_nil))) (fun a ha => pure_lr _ _) (by omega) (fun a ha _ _ _ _ _ => ptd_nil) (fun a ha hf _ _ _ _ _ => (pd_tup (ad_cons (pd_fn (ok_lead_at T) hr ⟨h, a.1, ho, rfl, rfl⟩ (ad_cons (pd_name 0) (ad_cons (pd_name 5) ad_nil))) (ad_cons (pd_name 6) ad_nil)) (by exact lle rfl))))
    ?_)
  rw [hfil]
  have hmin : ((kv.map fun q => lead h q.1)).map PyData.int = (leads h kv).map .int := rfl
  refine
    (sr_asg (d1 := .int g) 4 sc_extreme_of.nd (pd_if (pt_b (pd_name 2)) (fun hb => (pd_min (ns := leads h kv) rfl T.f_min x1 (fun y hy => by have := x2 y hy; rw [hb] at this; simpa using this) (pd_lc2I 7 6 kv (fun q => .int (lead h q.1)) (fun q => encL q.2) (by decide) rfl sc_extreme_of.nd (wd_eq (wd_list (pd_name 3)) rfl) (blkOk_by (N := N_extreme_of) (sc := defScope (top 61)) (by decide +kernel)) (fun _ _ _ _ _ => pg_tup rfl (pgs_cons (pg_name sc_extreme_of.nd rfl (.inl rfl)) (pgs_cons (pg_name sc_extreme_of.nd rfl (.inl rfl)) pgs_nil))) (by omega) (fun q => lead h q.1) (fun a ha _ _ _ _ _ => (pd_name 7))))) (fun hb => (pd_max (ns := leads h kv) rfl T.f_max x1 (fun y hy => by have := x2 y hy; rw [hb] at this; simpa using this) (pd_lc2I 7 6 kv (fun q => .int (lead h q.1)) (fun q => encL q.2) (by decide) rfl sc_extreme_of.nd (wd_eq (wd_list (pd_name 3)) rfl) (blkOk_by (N := N_extreme_of) (sc := defScope (top 61)) (by decide +kernel)) (fun _ _ _ _ _ => pg_tup rfl (pgs_cons (pg_name sc_extreme_of.nd rfl (.inl rfl)) (pgs_cons (pg_name sc_extreme_of.nd rfl (.inl rfl)) pgs_nil))) (by omega) (fun q => lead h q.1) (fun a ha _ _ _ _ _ => (pd_name 7))))))
    (sr_ret (pd_tup (ad_cons (pd_name 4) (ad_cons (pd_ixL (d := encL row) (pd_lc2 7 6 kv (fun q => .int (lead h q.1)) (fun q => encL q.2) (fun q => decide (lead h q.1 = g)) (fun q => encL q.2) (by decide) rfl sc_extreme_of.nd (wd_eq (wd_list (pd_name 3)) rfl) (blkOk_by (N := N_extreme_of) (sc := defScope (top 61)) (by decide +kernel)) (fun _ _ _ _ _ => pg_tup rfl (pgs_cons (pg_name sc_extreme_of.nd rfl (.inl rfl)) (pgs_cons (pg_name sc_extreme_of.nd rfl (.inl rfl)) pgs_nil))) (fun a ha => pure_encL _) (by omega) (fun a ha _ _ _ _ _ => (ptd_one (pt_eq (pt_eqS (pd_name 7) (pd_name 4)) (eqv_int _ _)))) (fun a ha hf _ _ _ _ _ => (pd_name 6))) pd_int ?_) ad_nil)) (by exact lle rfl))))
  have : (kv.filter fun q => decide (lead h q.1 = g)).map (fun q => encL q.2) = (rowsAt h kv g).map encL := by rw [rowsAt, List.map_map]; rfl
  rw [this]
  cases q : rowsAt h kv g with
  | nil => rw [q] at hrow; cases hrow
  | cons a l =>
    rw [q] at hrow
    cases hrow
    exact atI_head _ _
end
end G33
set_option Elab.async false
set_option linter.all false
set_option maxRecDepth 100000
set_option maxHeartbeats 4000000
namespace G33
open PySem PySem.Spec PyProof.Rows L2
section
variable {P : Program} {w : World} {K : PySem.W.Frag} {mg : Str → Option Value} {base : Heap}
/-! lead_row: least by its name alone -/
abbrev N_lead_row : List Str := ["hall", "rule", "other", "kind", "least", "two"]
theorem sc_lead_row : FnScope N_lead_row ["hall", "rule", "other", "kind", "least"] (defScope (top 63)) := ⟨rfl, rfl, rfl, by decide +kernel, rfl, by decide +kernel, by decide +kernel⟩
def R_lead_row : List PyData → PyData → Prop := fun dl d => ∃ (h : Hall) (r s : Ru) (rs b : Bool) (fin : Bs (List Int)) (g : Int) (row : List Int), GoOk h r s rs fin ∧ Extr b g (leads h fin.1) ∧ (rowsAt h fin.1 g).head? = some row ∧ dl = [h.enc, r.enc, s.enc, .str (kindS rs), .bool b] ∧ d = encL row
structure OkK (P : Program) (w : World) (K : PySem.W.Frag) (mg : Str → Option Value) (base : Heap) (k : Nat) (sp : Sp) : Prop where
  ex : ∃ fd, FnOk P w K mg base CX0 k (He.ga K "lead_row") fd ["hall", "rule", "other", "kind", "least"] sp ∧ KBn K fd ["hall", "rule", "other", "kind", "least"] 4 ["least"] (fun us ws => us ++ ws) (fun vs zs => vs ++ zs) ∧ ∃ ds, Vals [.bl false] ds ∧ Binds K fd ["hall", "rule", "other", "kind", "least"] ds
  glo : mg "lead_row" = some (.ref (He.ga K "lead_row"))
  kp : PySem.W.keepIn K (.ref (He.ga K "lead_row")) = true
theorem vals_app {a b : List V} {c d : List Value} (h : Vals a c) (k : Vals b d) : Vals (a ++ b) (c ++ d) := by
  induction h with
  | nil => exact k
  | cons x t ih => exact .cons x ih
theorem ok_lead_row (T : Fx K mg) : OkK P w K mg base 9 (spD K 5 R_lead_row) := by
  obtain ⟨fd, F⟩ := T.says.def_ 27 (d := d63) rfl
  refine ⟨⟨fd, ok_of F sc_lead_row fun cdv A outer sh H E hr dl d hR _ => ?_, ?_, ?_⟩, T.glo 27 rfl, F.kp⟩
  · obtain ⟨h, r, s, rs, b, fin, g, row, go, ex, hrow, rfl, rfl⟩ := hR
    obtain ⟨n, wo⟩ := go.ways
    exact
      (sr_asg 5 sc_lead_row.nd (pd_fn (ok_need_both T) hr ⟨h, r, s, rs, go.ho, go.ro, go.so, rfl, rfl⟩ (ad_cons (pd_name 0) (ad_cons (pd_name 1) (ad_cons (pd_name 2) (ad_cons (pd_name 3) ad_nil)))))
      (sr_expr (pd_fn (ok_need_truth T) hr ⟨b, rfl, rfl⟩ (ad_cons (pd_name 4) ad_nil))
      (sr_ret (pd_ix (pd_o (po_call (ok_extreme T) hr ⟨h, fin.1, b, g, row, go.ho, go.few, ex, hrow, rfl, rfl⟩ (ah_cons (ph_d (pd_name 0)) (ah_cons (ph_o (po_call (ok_ways T) hr ⟨h, r, s, rs, n, fin, wo, rfl, rfl⟩ (ah_d (ad_cons (pd_name 0) (ad_cons (pd_name 5) (ad_cons (pd_name 3) ad_nil)))))) (ah_cons (ph_d (pd_name 4)) ah_nil))))) pd_int rfl))))
  · obtain ⟨mv, hb⟩ := FunD.kbinds0 F (ps := ["hall", "rule", "other", "kind", "least"]) 4 ["least"] [] (fun us mv ws => us ++ ws) (fun z => nomatch z) (fun q hq => by simp at hq) (fun r1 _ r3 => vals_app r1 r3) (fun D doc pm an cdv ct us mv ws l1 l2 l3 => by
      match us, ws, l1, l3 with
      | [_, _, _, _], [_], _, _ => exact rfl)
    exact hb
  · exact FunD.binds0 F 4 (fun z => nomatch z) rfl (fun D doc pm an cdv ct us ks l1 l2 => by
      match us, ks, l1, l2 with
      | [_, _, _, _], [_], _, _ => exact ⟨_, _, _, _, _, _, rfl, rfl, rfl⟩)
theorem dpa4 {K : PySem.W.Frag} {H : Hp} {vs : List V} {d1 d2 d3 d4 : PyData} (h : DpAll K H vs [d1, d2, d3, d4]) : vs.length = 4 := dpa_len h
section
variable {X : Cx} {ds : Ds} {d d5 : PyData} {dl : List PyData} {e ek : Expr} {es : List Expr} {pos p kpos : Pos} {k k' : Nat} {R : List PyData → PyData → Prop}
/-- lead_row(.., least=e) -/
theorem pd_leadK (O : OkK X.prog X.w X.K X.mg X.base k (spD X.K 5 R)) (hr : Room k' X.A) (hR : R (dl ++ [d5]) d) (ha : PA X (e :: es) (taD X.w X.K ds dl)) (hkx : PE X ek (teD X.w X.K ds d5)) (hn : dl.length = 4 := by rfl) (hk : k ≤ k' := by decide)
    (hg : Gl X "lead_row" := by rfl) (hall : (backToKw pos (keywordEach [⟨some "least", ek, kpos⟩] X.env)).all (·.1.isSome) = true := by rfl) (hks : (backToKw pos (keywordEach [⟨some "least", ek, kpos⟩] X.env)).filterMap (·.1) = (["least"] : List Str) := by rfl)
    (he : starEach (e :: es) X.env = (false, eval e X.env) :: starEach es X.env := by rfl) (hpl : ((backTo pos (starEach (e :: es) X.env)).any (·.1) || (backToKw pos (keywordEach [⟨some "least", ek, kpos⟩] X.env)).any (·.1.isNone)) = false := by rfl) :
    PE X (.Call (.Name "lead_row" p) (e :: es) [⟨some "least", ek, kpos⟩] pos) (teD X.w X.K ds d) := by
  obtain ⟨fd, F, hb, _⟩ := O.ex
  refine pe_imp (pe_callN F (hr.mono hk) hg O.glo O.kp hb pass0 ha (pk_cons hkx pk_nil) hall hks (by decide) he hpl) fun σ H Q q => ⟨q.1, fun vs H1 e1 h1 => ⟨q.1.up e1, fun v H2 e2 h2 => ?_⟩⟩
  exact ⟨by rw [dpa_len h1, hn], rfl, dl ++ [d5], d, hR, by rw [List.length_append, hn]; rfl, dpa_append (h1.up e2) (.cons h2 .nil), fun u H3 e3 h3 => q.2 u H3 ((e1.trans e2).trans e3) h3⟩
/-- lead_row(..): the greatest -/
theorem pd_lead0 (O : OkK X.prog X.w X.K X.mg X.base k (spD X.K 5 R)) (hr : Room k' X.A) (hR : R (dl ++ [.bool false]) d) (ha : PA X (e :: es) (taD X.w X.K ds dl)) (hn : dl.length = 4 := by rfl) (hk : k ≤ k' := by decide)
    (hg : Gl X "lead_row" := by rfl) (he : starEach (e :: es) X.env = (false, eval e X.env) :: starEach es X.env := by rfl) (hpl : (backTo pos (starEach es X.env)).any (·.1) = false := by rfl) :
    PE X (.Call (.Name "lead_row" p) (e :: es) [] pos) (teD X.w X.K ds d) := by
  obtain ⟨fd, F, _, dvs, hv, hb⟩ := O.ex
  exact pe_imp (pe_call F (hr.mono hk) hg O.glo O.kp hb hv pass0 ha (by decide) he hpl) fun σ H Q q => ⟨q.1, fun vs H1 e1 h1 => ⟨dl ++ [.bool false], d, hR, by rw [List.length_append, hn]; rfl, dpa_append h1 (.cons (.bl false) .nil), fun u H2 e2 h2 => q.2 u H2 (e1.trans e2) h2⟩⟩
end
abbrev N_never_less : List Str := ["hall", "rule", "other", "kind"]
theorem sc_never_less : FnScope N_never_less ["hall", "rule", "other", "kind"] (defScope (top 64)) := ⟨rfl, rfl, rfl, by decide +kernel, rfl, by decide +kernel, by decide +kernel⟩
def R_never_less : List PyData → PyData → Prop := fun dl d => ∃ (h : Hall) (r s : Ru) (rs : Bool) (fin : Bs (List Int)) (lo hi : Int), GoOk h r s rs fin ∧ Extr true lo (leads h fin.1) ∧ Extr false hi (leads h fin.1) ∧ dl = [h.enc, r.enc, s.enc, .str (kindS rs)] ∧ d = .bool (decide (0 ≤ lo))
theorem ok_never_less (T : Fx K mg) : OkF P w K mg base 10 "never_less" ["hall", "rule", "other", "kind"] (spD K 4 R_never_less) := by
  refine mk_ok T 28 rfl sc_never_less rfl (fun _ _ _ _ _ _ us hl => match us, hl with | [_, _, _, _], _ => rfl) fun cdv A outer sh H E hr dl d hR _ => ?_
  obtain ⟨h, r, s, rs, fin, lo, hi, g, x1, x2, rfl, rfl⟩ := hR
  exact
    (sr_ret (pd_ge (pd_ix (pd_fn (ok_lead_range T) hr ⟨h, r, s, rs, fin, lo, hi, g, x1, x2, rfl, rfl⟩ (ad_cons (pd_name 0) (ad_cons (pd_name 1) (ad_cons (pd_name 2) (ad_cons (pd_name 3) ad_nil))))) pd_int rfl) pd_int))
abbrev N_are_alike : List Str := ["hall", "rule", "other", "kind"]
theorem sc_are_alike : FnScope N_are_alike ["hall", "rule", "other", "kind"] (defScope (top 65)) := ⟨rfl, rfl, rfl, by decide +kernel, rfl, by decide +kernel, by decide +kernel⟩
def R_are_alike : List PyData → PyData → Prop := fun dl d => ∃ (h : Hall) (r s : Ru) (rs : Bool) (fin : Bs (List Int)) (lo hi : Int), GoOk h r s rs fin ∧ Extr true lo (leads h fin.1) ∧ Extr false hi (leads h fin.1) ∧ dl = [h.enc, r.enc, s.enc, .str (kindS rs)] ∧ d = .bool (decide (lo = 0 ∧ hi = 0))
theorem sh_pair (a b : Int) : SeqAt.shaped (.tuple [.int a, .int b]) = true := (shp_tup (n := 0) fun x hx => by
  simp only [List.mem_cons, List.not_mem_nil, or_false] at hx
  rcases hx with rfl | rfl <;> exact shp_int _).ok (by decide)
theorem ok_are_alike (T : Fx K mg) : OkF P w K mg base 10 "are_alike" ["hall", "rule", "other", "kind"] (spD K 4 R_are_alike) := by
  refine mk_ok T 29 rfl sc_are_alike rfl (fun _ _ _ _ _ _ us hl => match us, hl with | [_, _, _, _], _ => rfl) fun cdv A outer sh H E hr dl d hR _ => ?_
  obtain ⟨h, r, s, rs, fin, lo, hi, g, x1, x2, rfl, rfl⟩ := hR
  exact
    (sr_ret (pd_eq (pd_eqD hr.units (pd_fn (ok_lead_range T) hr ⟨h, r, s, rs, fin, lo, hi, g, x1, x2, rfl, rfl⟩ (ad_cons (pd_name 0) (ad_cons (pd_name 1) (ad_cons (pd_name 2) (ad_cons (pd_name 3) ad_nil))))) (pd_tup (ad_cons pd_int (ad_cons pd_int ad_nil)) (by exact lle rfl)) (sh_pair _ _) (sh_pair _ _)) (by rw [eqv_tup]; simp only [PyData.eqvAll, eqv_int, Bool.and_true, ← Bool.decide_and])))
abbrev N_parting_row : List Str := ["hall", "rule", "other", "kind", "two", "some", "both", "row"]
theorem sc_parting_row : FnScope N_parting_row ["hall", "rule", "other", "kind"] (defScope (top 66)) := ⟨rfl, rfl, rfl, by decide +kernel, rfl, by decide +kernel, by decide +kernel⟩
def optR : Option (List Int) → PyData
  | some l => encL l
  | none => .none
def R_parting_row : List PyData → PyData → Prop := fun dl d => ∃ (h : Hall) (r s : Ru) (rs : Bool) (fin : Bs (List Int)), GoOk h r s rs fin ∧ dl = [h.enc, r.enc, s.enc, .str (kindS rs)] ∧ d = optR (parting h fin.1).head?
theorem ok_parting_row (T : Fx K mg) : OkF P w K mg base 9 "parting_row" ["hall", "rule", "other", "kind"] (spD K 4 R_parting_row) := by
  refine mk_ok T 30 rfl sc_parting_row rfl (fun _ _ _ _ _ _ us hl => match us, hl with | [_, _, _, _], _ => rfl) fun cdv A outer sh H E hr dl d hR _ => ?_
  obtain ⟨h, r, s, rs, fin, g, rfl, rfl⟩ := hR
  obtain ⟨n, wo⟩ := g.ways
  have hf := g.few
  have hfil : ((fin.1.filter fun q => !decide (lead h q.1 = 0)).map fun q => encL q.2) = (parting h fin.1).map encL := by rw [parting, List.map_map]; rfl
  refine
    (sr_asg 4 sc_parting_row.nd (pd_fn (ok_need_both T) hr ⟨h, r, s, rs, g.ho, g.ro, g.so, rfl, rfl⟩ (ad_cons (pd_name 0) (ad_cons (pd_name 1) (ad_cons (pd_name 2) (ad_cons (pd_name 3) ad_nil)))))
    (sr_asgL (asg_lc2 5 6 7 fin.1 (fun q => q.1.enc) (fun q => encL q.2) (fun q => !decide (lead h q.1 = 0)) (fun q => encL q.2) (by decide) rfl sc_parting_row.nd (wd_eq (wd_tabI (ph_o (po_call (ok_ways T) hr ⟨h, r, s, rs, n, fin, wo, rfl, rfl⟩ (ah_d (ad_cons (pd_name 0) (ad_cons (pd_name 4) (ad_cons (pd_name 3) ad_nil))))))) (by rw [List.map_map]; rfl)) (blkOk_by (N := N_parting_row) (sc := defScope (top 66)) (by decide +kernel)) (fun _ _ _ _ _ => pg_tup rfl (pgs_cons (pg_name sc_parting_row.nd rfl (.inl rfl)) (pgs_cons (pg_name sc_parting_row.nd rfl (.inl rfl)) pgs_nil))) (fun a ha => pure_encL _) (by omega) (fun a ha _ _ _ _ _ => (ptd_one (pt_eq (pt_neS (pd_fn (ok_lead_at T) hr ⟨h, a.1, g.ho, rfl, rfl⟩ (ad_cons (pd_name 0) (ad_cons (pd_name 6) ad_nil))) pd_int) (by rw [eqv_int])))) (fun a ha hf _ _ _ _ _ => (pd_name 7)))
    ?_))
  rw [hfil]
  cases q : parting h fin.1 with
  | nil => exact (sr_ret (pd_if (k := false) (pt_eq (pt_neD hr.units (pd_name 5) (pd_lst ad_nil (by exact lle rfl)) sh_nilL sh_nilL) rfl) (fun hb => nomatch hb) (fun hb => pd_non)))
  | cons a l => exact (sr_ret (pd_if (k := true) (pt_eq (pt_neD hr.units (pd_name 5) (pd_lst ad_nil (by exact lle rfl)) (sh_kvrow _) sh_nilL) (by show (!PyData.eqv (.list _) (.list [])) = true; rw [eqv_nilL]; rfl)) (fun hb => (pd_ixL (pd_name 5) pd_int (atI_head _ _))) (fun hb => nomatch hb)))
abbrev N_lead_paper : List Str := ["hall", "rule", "other", "kind", "two", "ways", "goal", "row"]
theorem sc_lead_paper : FnScope N_lead_paper ["hall", "rule", "other", "kind"] (defScope (top 67)) := ⟨rfl, rfl, rfl, by decide +kernel, rfl, by decide +kernel, by decide +kernel⟩
def table {α : Type} (kv : List (Pr × α)) : List Pr := (kv.map (·.1)).mergeSort prLe
abbrev paperD (g : Int) (ps : List Pr) (row : List Int) : PyData := .tuple [.int g, .tuple (ps.map Pr.enc), encL row]
def R_lead_paper : List PyData → PyData → Prop := fun dl d => ∃ (h : Hall) (r s : Ru) (rs : Bool) (fin : Bs (List Int)) (g : Int) (row : List Int), GoOk h r s rs fin ∧ Extr false g (leads h fin.1) ∧ (rowsAt h fin.1 g).head? = some row ∧ dl = [h.enc, r.enc, s.enc, .str (kindS rs)] ∧ d = paperD g (table fin.1) row
theorem ok_lead_paper (T : Fx K mg) : OkF P w K mg base 9 "lead_paper" ["hall", "rule", "other", "kind"] (spD K 4 R_lead_paper) := by
  refine mk_ok T 31 rfl sc_lead_paper rfl (fun _ _ _ _ _ _ us hl => match us, hl with | [_, _, _, _], _ => rfl) fun cdv A outer sh H E hr dl d hR _ => ?_
  obtain ⟨h, r, s, rs, fin, g, row, go, ex, hrow, rfl, rfl⟩ := hR
  obtain ⟨n, wo⟩ := go.ways
  have hf := go.few
  exact
    (sr_asg 4 sc_lead_paper.nd (pd_fn (ok_need_both T) hr ⟨h, r, s, rs, go.ho, go.ro, go.so, rfl, rfl⟩ (ad_cons (pd_name 0) (ad_cons (pd_name 1) (ad_cons (pd_name 2) (ad_cons (pd_name 3) ad_nil)))))
    (sh_asg 5 sc_lead_paper.nd (ph_o (po_call (ok_ways T) hr ⟨h, r, s, rs, n, fin, wo, rfl, rfl⟩ (ah_d (ad_cons (pd_name 0) (ad_cons (pd_name 4) (ad_cons (pd_name 3) ad_nil))))))
    (sr_un2 6 7 rfl sc_lead_paper.nd (pd_o (po_call (ok_extreme T) hr ⟨h, fin.1, false, g, row, go.ho, go.few, ex, hrow, rfl, rfl⟩ (ah_cons (ph_d (pd_name 0)) (ah_cons (ph_name 5) (ah_cons (ph_d pd_bl) ah_nil)))))
    (sr_ret (pd_tup (ad_cons (pd_name 6) (ad_cons (pd_tuple T.f_tuple (pd_oN (po_sortPr (ps := fin.1.map (·.1)) hr.units T.f_sorted (by rw [List.length_map]; omega) (pd_eq (pd_oN (po_listTab rfl T.f_list (ph_name 5))) (by rw [List.map_map, List.map_map]; rfl)))) (.inl rfl)) (ad_cons (pd_name 7) ad_nil))) (by exact lle rfl))))))
end
end G33
set_option Elab.async false
set_option linter.all false
set_option maxRecDepth 100000
set_option maxHeartbeats 4000000
namespace G33
open PySem PySem.Spec PyProof.Rows L2
theorem zipD_map {α β : Type} (f : α → PyData) (g : β → PyData) (xs : List α) (ys : List β) : zipD (xs.map f) (ys.map g) = (xs.zip ys).map fun p => .tuple [f p.1, g p.2] := by
  unfold zipD
  rw [List.zipWith_map, List.zip, List.map_zipWith]
theorem inK_map (ps : List Pr) (f : Pr → PyData) (q : Pr) : inK (ps.map fun p => (p, f p)) q = decide (q ∈ ps) := by
  cases hq : inK (ps.map fun p => (p, f p)) q with
  | true =>
    unfold inK at hq
    rw [List.lookup_isSome_iff] at hq
    obtain ⟨x, h1, h2⟩ := hq
    obtain ⟨p, h3, rfl⟩ := List.mem_map.mp h1
    have : q = p := by simpa using h2
    subst this
    exact (decide_eq_true h3).symm
  | false =>
    symm
    rw [decide_eq_false_iff_not]
    intro hm
    have : inK (ps.map fun p => (p, f p)) q = true := by
      unfold inK
      rw [List.lookup_isSome_iff]
      exact ⟨(q, f q), List.mem_map.mpr ⟨q, hm, rfl⟩, by simp⟩
    rw [this] at hq
    cases hq
theorem flat_ints (l : List Int) : (l.map PyData.int).all flatD = true := by
  rw [List.all_map]
  exact List.all_eq_true.mpr fun _ _ => rfl
theorem inD_ints {f : Int} {l : List Int} (h : f ∈ l) : inD (.int f) (l.map .int) = true := by
  unfold inD
  rw [List.any_map]
  exact List.any_eq_true.mpr ⟨f, h, by show PyData.eqv (.int f) (.int f) = true; rw [eqv_int]; simp⟩
structure TblOk (h : Hall) (r s : Ru) (rs : Bool) (g : Int) (ps : List Pr) : Prop where
  ho : h.Ok
  ro : RuOk h r
  so : RuOk h s
  pr : ∀ p ∈ ps, PrOk h rs p
  nd : ps.Nodup
  fst : first h ∈ ps
  srt : ∀ q ∈ ps.zip ps.tail, dLt q.1 q.2 = true
  le : ∀ p ∈ ps, lead h p ≤ g
  cl : ∀ p ∈ ps, ∀ f ∈ mayOf h rs p, behind h r s rs p f ∈ ps
  few : ps.length ≤ 20000
theorem PrOk.stG {h : Hall} {rs : Bool} {p : Pr} (ho : h.Ok) (x : PrOk h rs p) : StG h rs p := by
  have h1 := x.hi
  have h2 := ho.n4
  refine ⟨x.a.len, x.b.len, ?_⟩
  split at h1 <;> omega
def stAt (h : Hall) (r s : Ru) (rs : Bool) (row : List Int) (i : Nat) : Pr := (row.take i).foldl (behind h r s rs) (first h)
theorem stAt_next {h : Hall} {r s : Ru} {rs : Bool} {row : List Int} {i : Nat} {f : Int} (e : row[i]? = some f) : stAt h r s rs row (i + 1) = behind h r s rs (stAt h r s rs row i) f := foldl_take _ _ e
def Calls (h : Hall) (l : List Int) : Prop := ∀ f ∈ l, 0 ≤ f ∧ f ≤ (h.fares.length : Int) - 1
theorem call_nat {h : Hall} {l : List Int} (c : Calls h l) {f : Int} (hf : f ∈ l) : ∃ n : Nat, f = n ∧ n < h.fares.length := by
  obtain ⟨a, b⟩ := c f hf
  exact ⟨f.toNat, by omega, by omega⟩
theorem stG_behind {h : Hall} {r s : Ru} {rs : Bool} (ho : h.Ok) {p : Pr} (g : StG h rs p) {n : Nat} (hn : n < h.fares.length) : StG h rs (behind h r s rs p n) := by
  have := ho.n4
  refine ⟨(stepB_len).trans g.1, (stepB_len).trans g.2.1, ?_⟩
  show (if rs then (n : Int) else -1) ≤ 100
  split <;> omega
theorem stAt_good {h : Hall} {r s : Ru} {rs : Bool} {row : List Int} (ho : h.Ok) (c : Calls h row) : ∀ i, StG h rs (stAt h r s rs row i) := fun i =>
  fold_keep (StG h rs) (fun z f hf hz => by
    obtain ⟨n, rfl, hn⟩ := call_nat c (List.mem_of_mem_take hf)
    exact stG_behind ho hz hn) _ (stG_first h rs)
structure DoesOk (h : Hall) (r s : Ru) (rs : Bool) (g : Int) (row : List Int) : Prop where
  ho : h.Ok
  ro : RuOk h r
  so : RuOk h s
  may : ∀ i f, row[i]? = some f → f ∈ mayOf h rs (stAt h r s rs row i)
  end_ : lead h (stAt h r s rs row row.length) = g
  few : row.length ≤ 20000
theorem DoesOk.calls {h : Hall} {r s : Ru} {rs : Bool} {g : Int} {row : List Int} (x : DoesOk h r s rs g row) : Calls h row := fun f hf => by
  obtain ⟨i, hi⟩ := List.mem_iff_getElem?.mp hf
  obtain ⟨n, rfl, hn⟩ := may_lt (x.may i f hi)
  omega
section
variable {P : Program} {w : World} {K : PySem.W.Frag} {mg : Str → Option Value} {base : Heap}
abbrev N_is_table : List Str := ["hall", "two", "kind", "goal", "value", "both", "known", "one", "later", "fare"]
theorem sc_is_table : FnScope N_is_table ["hall", "two", "kind", "goal", "value"] (defScope (top 70)) := ⟨rfl, rfl, rfl, by decide +kernel, rfl, by decide +kernel, by decide +kernel⟩
def R_is_table : List PyData → PyData → Prop := fun dl d => ∃ (h : Hall) (r s : Ru) (rs : Bool) (g : Int) (ps : List Pr), TblOk h r s rs g ps ∧ dl = [h.enc, encTwo r s, .str (kindS rs), .int g, .tuple (ps.map Pr.enc)] ∧ d = .bool true
theorem ok_is_table (T : Fx K mg) : OkF P w K mg base 8 "is_table" ["hall", "two", "kind", "goal", "value"] (spD K 5 R_is_table) := by
  refine mk_ok T 34 rfl sc_is_table rfl (fun _ _ _ _ _ _ us hl => match us, hl with | [_, _, _, _, _], _ => rfl) fun cdv A outer sh H E hr dl d hR _ => ?_
  obtain ⟨h, r, s, rs, g, ps, t, rfl, rfl⟩ := hR
  have ho := t.ho
  have hf := t.few
  have hn4 := ho.n4
  refine
    (sr_no (pt_eq (w_t (wt_or (pt_no (pt_b (pd_is T.f_isinstance T.f_tuple bt_tuple (pd_name 4) ki_tuple_tuple))) (fun hb => (wt_or1 (pt_no (pt_b (pd_all rfl T.f_all (pd_lc1B 5 ps Pr.enc rfl sc_is_table.nd (wd_eq (wd_tup (pd_name 4)) rfl) (blkOk_by (N := N_is_table) (sc := defScope (top 70)) (by decide +kernel)) (fun _ _ _ _ _ => pg_name sc_is_table.nd rfl (.inl rfl)) ?_ (fun _ => true) (fun a ha _ _ _ _ _ => (pd_fn (ok_is_both T) hr ⟨h, rs, a, ho, t.pr a ha, rfl, rfl⟩ (ad_cons (pd_name 0) (ad_cons (pd_name 2) (ad_cons (pd_name 5) ad_nil))))))))))))) ?_)
    (sh_asg 6 sc_is_table.nd (ph_dcT 5 ps (fun _ => .bool true) hr.units rfl sc_is_table.nd (wd_tup (pd_name 4)) (blkOk_by (N := N_is_table) (sc := defScope (top 70)) (by decide +kernel)) (fun _ _ _ _ _ => pg_name sc_is_table.nd rfl (.inl rfl)) t.nd ?_ (fun _ _ => pureB _) (fun p hp _ _ _ _ _ => pd_name 5) (fun p hp _ _ _ _ _ => pd_bl))
    (sr_no (pt_eq (w_t (wt_or (pt_notInTab hr.units (pd_fn (ok_first_both T) hr ⟨h, ho, rfl, rfl⟩ (ad_cons (pd_name 0) ad_nil)) (ph_name 6)) (fun hb => (wt_or1 (pt_no (pt_b (pd_all rfl T.f_all (pd_lc2B 7 8 (ps.zip ps.tail) (fun q => q.1.enc) (fun q => q.2.enc) (by decide) rfl sc_is_table.nd (wd_eq (wd_zipT T.f_zip (pd_name 4) (pd_sl (pd_name 4) (od_some pd_int) od_none)) ?_) (blkOk_by (N := N_is_table) (sc := defScope (top 70)) (by decide +kernel)) (fun _ _ _ _ _ => pg_tup rfl (pgs_cons (pg_name sc_is_table.nd rfl (.inl rfl)) (pgs_cons (pg_name sc_is_table.nd rfl (.inl rfl)) pgs_nil))) ?_ (fun q => dLt q.1 q.2) (fun a ha _ _ _ _ _ => (pd_ltPr hr.units (pd_name 7) (pd_name 8))))))))))) ?_)
    (sr_for1 5 ps Pr.enc (fun _ => (startD 10 [h.enc, encTwo r s, .str (kindS rs), .int g, .tuple (ps.map Pr.enc)]).set 6 (some (dictD (ps.map fun p => (p, .bool true))))) nox_xe rfl sc_is_table.nd (wv_tup (pd_name 4)) (fun i p hi => ?_)
    (sr_ret pd_bl)))))
  · omega
  · rw [all_map, List.all_eq_true.mpr fun _ _ => rfl]; rfl
  · omega
  · rw [cutD_map, cutD_1, zipD_map]
  · rw [List.length_zip]; omega
  · rw [inK_map, all_map, List.all_eq_true.mpr t.srt, decide_eq_true t.fst]; rfl
  · have hm := List.mem_of_getElem? hi
    have gp := (t.pr p hm).stG ho
    have hlo := low_ok (h := h) (rs := rs) gp.2.2
    refine
      (sn_no (pt_eq (pt_gt (pd_fn (ok_lead_at T) hr ⟨h, p, ho, rfl, rfl⟩ (ad_cons (pd_name 0) (ad_cons (pd_name 5) ad_nil))) (pd_name 3)) ?_)
      (sn_no (pt_eq (pt_no (pt_b (pd_all rfl T.f_all (pd_lc1B 9 (mayOf h rs p) .int rfl sc_is_table.nd (wd_list (pd_oN (po_call (ok_fares T) hr ⟨h, rs, p, Nat.le_trans hn4 (by decide), gp.2.2, rfl, rfl⟩ (ah_d (ad_cons (pd_name 0) (ad_cons (pd_name 2) (ad_cons (pd_name 5) ad_nil))))))) (blkOk_by (N := N_is_table) (sc := defScope (top 70)) (by decide +kernel)) (fun _ _ _ _ _ => pg_name sc_is_table.nd rfl (.inl rfl)) ?_ (fun _ => true) (fun f hf _ _ _ _ _ => ?_))))) ?_)
      (sn_sub (.same (.same (.same (.same (.same (.skip (.same (.same (.same (.same .nil)))))))))) sn_nil)))
    · have := t.le p hm
      exact decide_eq_false (by omega)
    · rw [mayOf, List.length_map, List.length_range]; omega
    · obtain ⟨n, rfl, hn⟩ := may_lt hf
      have so := step_ok (rs := rs) ho gp hn t.ro.ok t.so.ok t.ro.deep t.so.deep
      exact pd_eq (pd_inTab hr.units (pd_fn (ok_behind_both T) hr ⟨h, r, s, rs, p, n, so.1, so.2, rfl, rfl⟩ (ad_cons (pd_name 0) (ad_cons (pd_name 1) (ad_cons (pd_name 2) (ad_cons (pd_name 5) (ad_cons (pd_name 9) ad_nil)))))) (ph_name 6)) (by rw [inK_map, decide_eq_true (t.cl p hm _ hf)])
    · rw [all_map, List.all_eq_true.mpr fun _ _ => rfl]; rfl
abbrev N_does_lead : List Str := ["hall", "two", "kind", "goal", "row", "fare", "both"]
theorem sc_does_lead : FnScope N_does_lead ["hall", "two", "kind", "goal", "row"] (defScope (top 71)) := ⟨rfl, rfl, rfl, by decide +kernel, rfl, by decide +kernel, by decide +kernel⟩
def R_does_lead : List PyData → PyData → Prop := fun dl d => ∃ (h : Hall) (r s : Ru) (rs : Bool) (g : Int) (row : List Int), DoesOk h r s rs g row ∧ dl = [h.enc, encTwo r s, .str (kindS rs), .int g, encL row] ∧ d = .bool true
theorem ok_does_lead (T : Fx K mg) : OkF P w K mg base 8 "does_lead" ["hall", "two", "kind", "goal", "row"] (spD K 5 R_does_lead) := by
  refine mk_ok T 35 rfl sc_does_lead rfl (fun _ _ _ _ _ _ us hl => match us, hl with | [_, _, _, _, _], _ => rfl) fun cdv A outer sh H E hr dl d hR _ => ?_
  obtain ⟨h, r, s, rs, g, row, t, rfl, rfl⟩ := hR
  have ho := t.ho
  have hf := t.few
  have hn4 := ho.n4
  have hc := t.calls
  refine
    (sr_no (pt_eq (w_t (wt_or (pt_no (pt_b (pd_is T.f_isinstance T.f_tuple bt_tuple (pd_name 4) ki_tuple_tuple))) (fun hb => (wt_or1 (pt_no (pt_b (pd_all rfl T.f_all (pd_lc1B 5 row .int rfl sc_does_lead.nd (wd_eq (wd_tup (pd_name 4)) rfl) (blkOk_by (N := N_does_lead) (sc := defScope (top 71)) (by decide +kernel)) (fun _ _ _ _ _ => pg_name sc_does_lead.nd rfl (.inl rfl)) ?_ (fun f => decide (0 ≤ f) && decide (f ≤ (h.fares.length : Int) - 1)) (fun a ha _ _ _ _ _ => (pd_fn (ok_is_whole T) hr ⟨a, 0, (h.fares.length : Int) - 1, rfl, rfl⟩ (ad_cons (pd_name 5) (ad_cons pd_int (ad_cons (pd_eq (pd_sub (pd_len T.f_len (pd_ix (pd_name 0) pd_int rfl)) pd_int) (by rw [List.length_map])) ad_nil))))))))))))) ?_)
    (sr_asg 6 sc_does_lead.nd (pd_fn (ok_first_both T) hr ⟨h, ho, rfl, rfl⟩ (ad_cons (pd_name 0) ad_nil))
    (sr_for1 5 row .int (fun i => (startD 7 [h.enc, encTwo r s, .str (kindS rs), .int g, encL row]).set 6 (some (stAt h r s rs row i).enc)) nox_xe rfl sc_does_lead.nd (wv_tup (pd_name 4)) (fun i f hi => ?_)
    (sr_ret (pd_eq (pd_eqS (pd_fn (ok_lead_at T) hr ⟨h, _, ho, rfl, rfl⟩ (ad_cons (pd_name 0) (ad_cons (pd_name 6) ad_nil))) (pd_name 3)) ?_)))))
  · omega
  · rw [all_map, List.all_eq_true.mpr fun x hx => whole_t (hc x hx).1 (hc x hx).2]; rfl
  · have gp := stAt_good (r := r) (s := s) (rs := rs) ho hc i
    have hm := t.may i f hi
    obtain ⟨n, rfl, hn⟩ := may_lt hm
    have so := step_ok (rs := rs) ho gp hn t.ro.ok t.so.ok t.ro.deep t.so.deep
    have e := stAt_next (h := h) (r := r) (s := s) (rs := rs) hi
    rw [e]
    refine
      (sn_no (pt_eq (pt_notInL (pd_name 5) (pd_oN (po_call (ok_fares T) hr ⟨h, rs, stAt h r s rs row i, Nat.le_trans hn4 (by decide), gp.2.2, rfl, rfl⟩ (ah_d (ad_cons (pd_name 0) (ad_cons (pd_name 2) (ad_cons (pd_name 6) ad_nil)))))) rfl (flat_ints _)) (by show (!inD (.int (n : Nat)) ((mayOf h rs (stAt h r s rs row i)).map .int)) = false; rw [inD_ints hm]; rfl))
      (sn_asg 6 sc_does_lead.nd (pd_fn (ok_behind_both T) hr ⟨h, r, s, rs, stAt h r s rs row i, n, so.1, so.2, rfl, rfl⟩ (ad_cons (pd_name 0) (ad_cons (pd_name 1) (ad_cons (pd_name 2) (ad_cons (pd_name 6) (ad_cons (pd_name 5) ad_nil))))))
      (sn_sub (.same (.same (.same (.same (.same (.skip (.same .nil))))))) sn_nil)))
  · show PyData.bool (PyData.eqv (.int _) (.int g)) = _
    rw [eqv_int, decide_eq_true t.end_]
abbrev N_check_lead : List Str := ["hall", "rule", "other", "kind", "paper", "two"]
theorem sc_check_lead : FnScope N_check_lead ["hall", "rule", "other", "kind", "paper"] (defScope (top 72)) := ⟨rfl, rfl, rfl, by decide +kernel, rfl, by decide +kernel, by decide +kernel⟩
def R_check_lead : List PyData → PyData → Prop := fun dl d => ∃ (h : Hall) (r s : Ru) (rs : Bool) (g : Int) (ps : List Pr) (row : List Int), TblOk h r s rs g ps ∧ DoesOk h r s rs g row ∧ dl = [h.enc, r.enc, s.enc, .str (kindS rs), paperD g ps row] ∧ d = .int g
theorem ok_check_lead (T : Fx K mg) : OkF P w K mg base 9 "check_lead" ["hall", "rule", "other", "kind", "paper"] (spD K 5 R_check_lead) := by
  refine mk_ok T 36 rfl sc_check_lead rfl (fun _ _ _ _ _ _ us hl => match us, hl with | [_, _, _, _, _], _ => rfl) fun cdv A outer sh H E hr dl d hR _ => ?_
  obtain ⟨h, r, s, rs, g, ps, row, t, x, rfl, rfl⟩ := hR
  exact
    (sr_asg 5 sc_check_lead.nd (pd_fn (ok_need_both T) hr ⟨h, r, s, rs, t.ho, t.ro, t.so, rfl, rfl⟩ (ad_cons (pd_name 0) (ad_cons (pd_name 1) (ad_cons (pd_name 2) (ad_cons (pd_name 3) ad_nil)))))
    (sr_no (pt_eq (w_t (wt_or (pt_no (pt_b (pd_is T.f_isinstance T.f_tuple bt_tuple (pd_name 4) ki_tuple_tuple))) (fun hb => (wt_or1 (pt_neS (pd_len T.f_len (pd_name 4)) pd_int))))) rfl)
    (sr_no (pt_eq (pt_no (pt_b (pd_fn (ok_is_number T) hr ⟨g, rfl, rfl⟩ (ad_cons (pd_ix (pd_name 4) pd_int rfl) ad_nil)))) rfl)
    (sr_no (pt_eq (pt_no (pt_b (pd_fn (ok_is_table T) hr ⟨h, r, s, rs, g, ps, t, rfl, rfl⟩ (ad_cons (pd_name 0) (ad_cons (pd_name 5) (ad_cons (pd_name 3) (ad_cons (pd_ix (pd_name 4) pd_int rfl) (ad_cons (pd_ix (pd_name 4) pd_int rfl) ad_nil)))))))) rfl)
    (sr_no (pt_eq (pt_no (pt_b (pd_fn (ok_does_lead T) hr ⟨h, r, s, rs, g, row, x, rfl, rfl⟩ (ad_cons (pd_name 0) (ad_cons (pd_name 5) (ad_cons (pd_name 3) (ad_cons (pd_ix (pd_name 4) pd_int rfl) (ad_cons (pd_ix (pd_name 4) pd_int rfl) ad_nil)))))))) rfl)
    (sr_ret (pd_ix (pd_name 4) pd_int rfl)))))))
end
end G33
set_option Elab.async false
set_option linter.all false
set_option maxRecDepth 100000
set_option maxHeartbeats 4000000
namespace G33
open PySem PySem.Spec PyProof.Rows L2
/-- the leads call by call -/
def leadsBy (h : Hall) (r s : Ru) (rs : Bool) (row : List Int) : List Int := (List.range row.length).map fun i => lead h (stAt h r s rs row (i + 1))
theorem leadsBy_take {h : Hall} {r s : Ru} {rs : Bool} {row : List Int} {i : Nat} (hi : i < row.length) : (List.range (i + 1)).map (fun j => lead h (stAt h r s rs row (j + 1))) = (List.range i).map (fun j => lead h (stAt h r s rs row (j + 1))) ++ [lead h (stAt h r s rs row (i + 1))] := by
  rw [List.range_succ, List.map_append]
  rfl
section
variable {P : Program} {w : World} {K : PySem.W.Frag} {mg : Str → Option Value} {base : Heap}
abbrev N_lead_behind : List Str := ["hall", "rule", "other", "kind", "row", "two", "both", "found", "fare"]
theorem sc_lead_behind : FnScope N_lead_behind ["hall", "rule", "other", "kind", "row"] (defScope (top 73)) := ⟨rfl, rfl, rfl, by decide +kernel, rfl, by decide +kernel, by decide +kernel⟩
def R_lead_behind : List PyData → PyData → Prop := fun dl d => ∃ (h : Hall) (r s : Ru) (rs : Bool) (row : List Int) (t : Bool), h.Ok ∧ RuOk h r ∧ RuOk h s ∧ RowOk h rs row ∧ dl = [h.enc, r.enc, s.enc, .str (kindS rs), if t then encL row else .list (row.map .int)] ∧ d = encL (leadsBy h r s rs row)
def bds (h : Hall) (r s : Ru) (rs : Bool) (o4 : Option PyData) (p : Pr) (o8 : Option PyData) : Ds := [some h.enc, some r.enc, some s.enc, some (.str (kindS rs)), o4, some (encTwo r s), some p.enc, none, o8]
theorem bds_pu {h : Hall} {r s : Ru} {rs : Bool} {p : Pr} {o8 : Option PyData} (h8 : ∀ d, o8 = some d → pure d = true) : PuD (bds h r s rs none p o8) := by
  refine .p (pure_hall h) (.p (pure_ru r) (.p (pure_ru s) (.p (pure_str _) (.n (.p (pure_two r s) (.p (pure_pr p) (.n ?_)))))))
  cases o8 with
  | none => exact .n .nil
  | some d => exact .p (h8 d rfl) .nil
structure BI (w : World) (K : PySem.W.Frag) (H0 : Hp) (h : Hall) (r s : Ru) (rs : Bool) (row : List Int) (p : Pr) (ls : List Int) (o8 : Option PyData) (v : V) (σ : L2.St) (H : Hp) : Prop where
  ex : Ex H0 H
  lc : Lc w K H σ (bds h r s rs none p o8)
  row : Dp K H v (encL row)
  li : ∃ q vs, LiA K H σ 7 q vs (ls.map .int) ∧ H0 q = none
theorem BI.up {H0 H H' : Hp} {h : Hall} {r s : Ru} {rs : Bool} {row : List Int} {p : Pr} {ls : List Int} {o8 : Option PyData} {v : V} {σ : L2.St} (x : BI w K H0 h r s rs row p ls o8 v σ H) (e : Ex H H') : BI w K H0 h r s rs row p ls o8 v σ H' := ⟨x.ex.trans e, x.lc.up e, x.row.up e, let ⟨q, vs, a, b⟩ := x.li; ⟨q, vs, a.up e, b⟩⟩
theorem ok_lead_behind (T : Fx K mg) : OkF P w K mg base 8 "lead_behind" ["hall", "rule", "other", "kind", "row"] (spD K 5 R_lead_behind) := by
  refine mk_ok T 37 rfl sc_lead_behind rfl (fun _ _ _ _ _ _ us hl => match us, hl with | [_, _, _, _, _], _ => rfl) fun cdv A outer sh H E hr dl d hR _ => ?_
  obtain ⟨h, r, s, rs, row, t, ho, hro, hso, hrow, rfl, rfl⟩ := hR
  have hnd : nd (if t then encL row else .list (row.map .int)) = true := by cases t <;> rfl
  have hcalls : Calls h row := hrow.2.1
  refine sr_asg 5 sc_lead_behind.nd (pd_fn (ok_need_both T) hr ⟨h, r, s, rs, ho, hro, hso, rfl, rfl⟩ (ad_cons (pd_name 0) (ad_cons (pd_name 1) (ad_cons (pd_name 2) (ad_cons (pd_name 3) ad_nil))))) ?_
  refine sr_h fun σ0 H0 L0 => ?_
  refine hs_cons (M := fun σ H => Ex H0 H ∧ Lc w K H σ (bds h r s rs (some (if t then encL row else .list (row.map .int))) (first h) none) ∧ ∃ q vs, LiA K H σ 7 q vs (([] : List Int).map .int) ∧ H0 q = none)
    (ps_imp (ps_par (i := 6) (j := 7) rfl sc_lead_behind.nd rfl rfl (by decide) rfl rfl (pa_cons (pd_fn (ds := (startD 9 [h.enc, r.enc, s.enc, .str (kindS rs), if t then encL row else .list (row.map .int)]).set 5 (some (encTwo r s))) (ok_first_both T) hr ⟨h, ho, rfl, rfl⟩ (ad_cons (pd_name 0) ad_nil)) (pa_cons (po_lst (ds := (startD 9 [h.enc, r.enc, s.enc, .str (kindS rs), if t then encL row else .list (row.map .int)]).set 5 (some (encTwo r s))) ad_nil (by exact lle rfl)) pa_nil)) rfl rfl) fun D σ H q => ?_) ?_
  · obtain ⟨⟨rfl, rfl⟩, hN, _⟩ := q
    refine ⟨L0, fun v1 H1 e1 d1 => ⟨L0.up e1, fun H2 v2 H3 e2 o => ⟨v1, v2, rfl, hN _ _ ?_⟩⟩⟩
    obtain ⟨x, q, vs, rfl, nq, hq, dq⟩ := o
    have ee := (e1.trans e2).trans x
    refine ⟨ee, ?_, q, vs, ⟨set_eq (by rw [List.length_set, L0.1]; exact lle rfl), hq, dq⟩, ex_none (e1.trans e2) nq⟩
    exact (((L0.up ee).set 6 (d1.up (e2.trans x))).un 7 _)
  refine hs_cons (M := fun σ H => ∃ v, BI w K H0 h r s rs row (stAt h r s rs row row.length) (leadsBy h r s rs row) none v σ H) ?_ ?_
  · refine hp_for1 (d := encL row) (ds := bds h r s rs (some (if t then encL row else .list (row.map .int))) (first h) none) 8 row .int
      (fun v i σ H => i ≤ row.length ∧ BI w K H0 h r s rs row (stAt h r s rs row i) ((List.range i).map fun j => lead h (stAt h r s rs row (j + 1))) none v σ H)
      (fun v i f σ H => i < row.length ∧ BI w K H0 h r s rs row (stAt h r s rs row i) ((List.range i).map fun j => lead h (stAt h r s rs row (j + 1))) (some (.int f)) v σ H)
      nox_xe rfl sc_lead_behind.nd (wv_tup (pd_fn (ok_need_row T) hr ⟨h, rs, row, t, hrow, rfl, rfl⟩ (ad_cons (pd_name 0) (ad_cons (pd_name 3) (ad_cons (pd_name 4) ad_nil))))) (fun σ H q => q.2.1) (fun σ H v H' q e dv => ?_) (fun v i σ H q => q.2.row) (fun v σ H q => ⟨v, q.2⟩) (fun v i f σ H u H2 hi q e du => ?_) (fun v i f hi => ?_)
    · obtain ⟨x, L, q, vs, Li, nq⟩ := q
      exact ⟨Nat.zero_le _, x.trans e, SubD.lc (.same (.same (.same (.same (.skip (.same (.same (.same (.same .nil))))))))) (L.up e), dv, q, vs, Li.up e, nq⟩
    · have y := q.2.up e
      obtain ⟨q', vs, Li, nq⟩ := y.li
      exact ⟨(List.getElem?_eq_some_iff.mp hi).1, y.ex, y.lc.set 8 du, y.row, q', vs, ⟨set_ne (by decide) Li.slot, Li.here, Li.data⟩, nq⟩
    · have gp := stAt_good (r := r) (s := s) (rs := rs) ho hcalls i
      obtain ⟨n, rfl, hn⟩ := call_nat hcalls (List.mem_of_getElem? hi)
      have so := step_ok (rs := rs) ho gp hn hro.ok hso.ok hro.deep hso.deep
      have e := stAt_next (h := h) (r := r) (s := s) (rs := rs) hi
      refine hs_cons (M := fun σ H => i < row.length ∧ BI w K H0 h r s rs row (stAt h r s rs row (i + 1)) ((List.range i).map fun j => lead h (stAt h r s rs row (j + 1))) (some (.int n)) v σ H)
        (hs_asg (ds := bds h r s rs none (stAt h r s rs row i) (some (.int n))) 6 sc_lead_behind.nd (pd_fn (ok_behind_both T) hr ⟨h, r, s, rs, stAt h r s rs row i, n, so.1, so.2, rfl, rfl⟩ (ad_cons (pd_name 0) (ad_cons (pd_name 5) (ad_cons (pd_name 3) (ad_cons (pd_name 6) (ad_cons (pd_name 8) ad_nil)))))) (fun σ H q => q.2.lc) (fun σ H u H' q e' du => ?_))
        (hs_one (hp_append (d := .int (lead h (stAt h r s rs row (i + 1)))) (ds := bds h r s rs none (stAt h r s rs row (i + 1)) (some (.int n))) 7 (pd_fn (ok_lead_at T) hr ⟨h, _, ho, rfl, rfl⟩ (ad_cons (pd_name 0) (ad_cons (pd_name 6) ad_nil))) (fun σ H q => q.2.lc) (fun σ H q => ?_)))
      · have y := q.2.up e'
        obtain ⟨q', vs, Li, nq⟩ := y.li
        rw [e]
        exact ⟨q.1, y.ex, y.lc.set 6 du, y.row, q', vs, ⟨set_ne (by decide) Li.slot, Li.here, Li.data⟩, nq⟩
      · obtain ⟨hi', y⟩ := q
        obtain ⟨q', vs, Li, nq⟩ := y.li
        have hvl : vs.length = i := by rw [dpa_len Li.data, List.length_map, List.length_map, List.length_range]
        have h400 := hrow.1
        refine ⟨q', vs, Li.slot, Li.here, by omega, fun v1 H1 e1 d1 => ?_⟩
        have y1 := y.up e1
        have L1 := Li.up e1
        have al : AtLst q' H1 (upd H1 q' (.lst (vs ++ [v1]))) := ⟨⟨_, L1.here⟩, fun b hb => upd_ne hb⟩
        refine ⟨hi', Evl.Ex.mut y1.ex nq, ?_, y1.row.upT (pure_encL row) al.exT, q', vs ++ [v1], ⟨L1.slot, upd_same, ?_⟩, nq⟩
        · exact SubD.lc (.same (.same (.same (.same (.same (.same (.same (.same (.skip .nil))))))))) (y1.lc.lput al (bds_pu fun d e => by cases e; exact pure_int _))
        · rw [leadsBy_take hi', List.map_append]
          exact dpa_append (dpa_upT al.exT _ (pureAll_map fun a _ => pure_int a) L1.data) (.cons (d1.upT (pure_int _) al.exT) .nil)
  · refine hs_ex fun v => hs_pre fun σ1 H1 q1 => ?_
    obtain ⟨q, vs, Li, nq⟩ := q1.li
    refine hs_one (hs_ret (ds := (bds h r s rs none (stAt h r s rs row row.length) none).set 7 (some (.list ((leadsBy h r s rs row).map .int)))) (pd_tuple T.f_tuple (pd_name 7) (.inl rfl)) (fun σ H q => ?_) (fun σ H v H' q e dv => ?_))
    · obtain ⟨rfl, rfl⟩ := q
      have := q1.lc.set 7 Li.dp
      rw [show σ.set 7 (some (.ref _)) = σ from set_same Li.slot] at this
      exact this
    · obtain ⟨rfl, rfl⟩ := q
      exact ⟨q1.ex.trans e, dv⟩
end
end G33
set_option Elab.async false
set_option linter.all false
set_option maxRecDepth 100000
set_option maxHeartbeats 1000000
namespace G33
open PySem PySem.Spec PyProof.Rows L2
/-! ### promises kept where nothing is being shown (no repr is under way): what repr asks -/
structure FnOkG (P : Program) (w : World) (K : PySem.W.Frag) (mg : Str → Option Value) (base : Heap) (k : Nat) (f : Addr) (fd : FuncData) (ps : List Str) (sp : Sp) : Prop where
  len : ∀ vs H Q E, sp vs H Q E → vs.length = ps.length
  run : ∀ (A : Around) (outer : List Env) (s : Shared) (H : Hp) (args : Args) (us : List Value) (vs : List V) (Q : VK) (E : XK), A.guards = some [] → Room k A → Env0 P w K mg base A outer s H → BindsTo s fd args (ps.zip us) → Vals vs us → sp vs H Q E →
    codeAny (model P w) A (.call (.ref f) args) (CR CX0 outer P w H s Q E) s
theorem fn_ofG {P : Program} {w : World} {K : PySem.W.Frag} {mg : Str → Option Value} {base : Heap} {k : Nat} {f : Addr} {name qual : Str} {params : Arguments} {body : List Stmt} {scope : Scope} {dV kV doc pm cdv ct oc : Value} {an od : Option Addr} {osl : Array (Option Value)} {N ps : List Str} {sp : Sp}
    (lk : K.lookup f = some ⟨oc, od, .func (PySem.W.fnOf name qual params body scope dV kV doc pm an cdv ct), osl⟩) (hcd : PySem.W.codeIn K cdv qual = true) (S : FnScope N ps scope) (len : ∀ vs H Q E, sp vs H Q E → vs.length = ps.length)
    (hbody : ∀ (A : Around) (outer : List Env) (s : Shared) (H : Hp) (vs : List V) (Q : VK) (E : XK), A.guards = some [] → Room k (A.deeper (envOfC qual scope s.heap.objs.size f cdv)) → sp vs H Q E → ∃ t, PSs (cxOf CX0 P w K mg base N qual scope f cdv A outer s H E) body t ∧ t { nx := fun _ H' => Q .non H', rt := Q } (L2.start N vs) H) :
    FnOkG P w K mg base (k + 1) f (PySem.W.fnOf name qual params body scope dV kV doc pm an cdv ct) ps sp := by
  refine ⟨len, fun A outer s H args us vs Q E hgd hr e0 hb r hsp => ?_⟩
  have hlen := len _ _ _ _ hsp
  have KX : K.In s.heap := e0.mod.kin.keeps fun b o e => (e0.bs b o e).1
  have nolim : s.heap.NoLimit := e0.mod.nolimit.keeps fun b o e => (e0.bs b o e).1
  have hkinds : ∀ y ∈ ps.zip us, scope.names.lookup y.1 = some .local ∨ (scope.names.lookup y.1 = some .cell ∧ ((cellsFrom (s.heap.objs.size + 1) scope.names []).lookup y.1).isSome = true) := fun ⟨n, v⟩ hy =>
    (S.par n (List.of_mem_zip hy).1).elim .inl fun q => .inr ⟨q, PySem.W.cellsFrom_some _ _ _ (.inl q)⟩
  refine codeAny_call_function hr.depth (KX _ _ lk) rfl S.co S.gen rfl (PySem.W.codeRec_of KX hcd) (hb _ _ _ _ (wpAny_newFunctionEnv_cells S.kind hkinds fun env he s1 x => ?_))
  subst he
  refine ⟨nolim.keeps x.toInCall.keep, codeAny_func ?_⟩
  obtain ⟨t, ht, hq⟩ := hbody A outer s H vs Q E hgd (hr.deeper _) hsp
  have I : Inv (cxOf CX0 P w K mg base N qual scope f cdv A outer s H E) [] (L2.start N vs) H s1 := inv_start S hr.hd e0 hlen r x
  refine wpAny_mono (ht.run [] s1 (L2.start N vs) H _ I hq) (fun fl s' hs => ?_) fun e s' hs => hs
  cases fl with
  | ret u => exact let ⟨v, σ', H', J, rv, q⟩ := hs; ⟨v, H', J.os, J.bare, J.base, J.hok, rv, q⟩
  | next => exact let ⟨σ', H', J, q⟩ := hs; ⟨V.non, H', J.os, J.bare, J.base, J.hok, rfl, q⟩
  | brk => exact let ⟨_, _, _, q⟩ := hs; q.elim
  | cont => exact let ⟨_, _, _, q⟩ := hs; q.elim
structure OkG (P : Program) (w : World) (K : PySem.W.Frag) (mg : Str → Option Value) (base : Heap) (k : Nat) (x : Str) (ps : List Str) (sp : Sp) : Prop where
  ex : ∃ fd, FnOkG P w K mg base k (He.ga K x) fd ps sp ∧ Binds K fd ps []
  glo : mg x = some (.ref (He.ga K x))
  kp : PySem.W.keepIn K (.ref (He.ga K x)) = true
theorem mk_okG {P : Program} {w : World} {K : PySem.W.Frag} {mg : Str → Option Value} {base : Heap} {Nm ps : List Str} {k : Nat} {R : List PyData → Out → Prop} (T : Fx K mg) (i : Nat) {x : Str} {params : Arguments} {body : List Stmt} {scope : Scope}
    (hd : fn[i]? = some ⟨(x, none), x, x, params, body, scope, [], []⟩) (S : FnScope Nm ps scope) (hg : fa[i]? = some (.glo x))
    (hb : ∀ (kV doc pm : Value) (an : Option Addr) (cdv ct : Value) (us : List Value), us.length = ps.length → bindArgs (PySem.W.fnOf x x params body scope .none kV doc pm an cdv ct) ⟨us, []⟩ = Pure.pure (ps.zip us))
    (h : ∀ (cdv : Value) (A : Around) (outer : List Env) (s : Shared) (H : Hp) (E : XK), A.guards = some [] → Room k (A.deeper (envOfC x scope s.heap.objs.size (He.ga K x) cdv)) → ∀ dl O, R dl O → dl.length = ps.length →
      PSs (cxOf CX0 P w K mg base Nm x scope (He.ga K x) cdv A outer s H E).nox body (tRO w K (startD Nm.length dl) O)) : OkG P w K mg base (k + 1) x ps (spX w K ps.length R) := by
  obtain ⟨fd, F⟩ := T.says.def_ i hd
  refine ⟨⟨fd, ?_, FunD.bindsN F hb⟩, T.glo i hg, F.kp⟩
  obtain ⟨oc, od, dV, kV, doc, pm, an, cdv, ct, osl, rfl, lk, hcd, _, _⟩ := F.ex
  refine fn_ofG lk hcd S (fun vs H Q E h => ?_) fun A outer s H vs Q E hgd hr hsp => ?_
  · obtain ⟨dl, O, _, hn, hd, _⟩ := h
    rw [hall_len hd, hn]
  · obtain ⟨dl, O, hRd, hn, hd, g⟩ := hsp
    exact ⟨tRO w K (startD Nm.length dl) O, (h cdv A outer s H E hgd hr dl O hRd hn).nox, Lc.startH hd, g⟩
section
variable {X : Cx} {ds : Ds} {d d1 d2 : PyData} {a b e : Expr} {es : List Expr} {pos p : Pos} {x : Str} {O : Out}
theorem po_callG {k k' : Nat} {ps : List Str} {R : List PyData → Out → Prop} {n : Nat} {x : Str} {dl : List PyData} (F : OkG X.prog X.w X.K X.mg X.base k x ps (spX X.w X.K n R)) (hgd : X.A.guards = some []) (hr : Room k' X.A) (hR : R dl O) (ha : PA X (e :: es) (taH X.w X.K ds dl)) (hk : k ≤ k' := by decide)
    (hn : dl.length = n := by rfl) (hg : Gl X x := by rfl) (hdb : (x == ("__debug__" : Str)) = false := by decide) (he : starEach (e :: es) X.env = (false, eval e X.env) :: starEach es X.env := by rfl) (hpl : (backTo pos (starEach es X.env)).any (·.1) = false := by rfl) :
    PE X (.Call (.Name x p) (e :: es) [] pos) (teO X.w X.K ds O) := by
  obtain ⟨fd, F1, hb⟩ := F.ex
  refine ⟨fun pins s σ H Q I h => ?_⟩
  refine wpAny_Call_Name_kw (ld_glob I hg F.glo (PySem.W.callWith_K (h₀ := X.base) I.ok.mod.kin F.kp (thn (ha.run pos pins s σ H (fun vs H1 => HAll X.w X.K H1 vs dl ∧ Ex H H1) I ⟨h.1, fun vs H' e1 hd => ⟨hd, e1⟩⟩) fun us s1 ⟨vs, H1, I1, r, q⟩ => ⟨I1.kIn, ?_⟩) he hpl) hdb)
  obtain ⟨hd, e1⟩ := q
  have hs : spX X.w X.K n R vs H1 Q (fun _ _ _ => False) := ⟨dl, O, hR, hn, hd, fun u H' o => h.2 H1 u H' e1 o⟩
  have hl : (us ++ []).length = ps.length := by rw [List.append_nil, ← r.length]; exact F1.len _ _ _ _ hs
  have hrun := F1.run X.A X.stack s1 H1 ⟨us, []⟩ (us ++ []) vs Q (fun _ _ _ => False) hgd (hr.mono hk) I1.env0 (hb s1 us I1.kIn hl) (by rw [List.append_nil]; exact r) hs
  refine wpAny_call (codeAny_mono hrun fun r s' hq => ?_)
  cases r with
  | error e => exact pass0 pins σ H1 s1 e s' I1 hq
  | ok fl =>
    cases fl with
    | ret u => exact I1.after hq
    | next => exact hq.elim
    | brk => exact hq.elim
    | cont => exact hq.elim
/-- repr(e) -/
structure Shown (d : PyData) : Prop where
  shp : Shp 60 d
  show_ : d.showable = true
  size : d.shown.length ≤ sizeLine
  way : (∃ i, d = .int i) ∨ (∃ xs, d = .tuple xs) ∨ ∃ xs, d = .list xs
theorem noDict_of_lay : ∀ d : PyData, d.canLay0 = true → d.hasDict = false := fun d h => by
  have both : (∀ d : PyData, d.canLay0 = true → d.hasDict = false) := by
    intro d
    exact PyData.rec (motive_1 := fun d => d.canLay0 = true → d.hasDict = false) (motive_2 := fun ds => PyData.canLayAll0 ds = true → PyData.hasDictAll ds = false) (motive_3 := fun _ => True) (motive_4 := fun _ => True)
      (fun _ => by simp [PyData.hasDict]) (fun _ _ => by simp [PyData.hasDict]) (fun _ _ => by simp [PyData.hasDict]) (fun _ _ => by simp [PyData.hasDict]) (fun ds ih h => by rw [PyData.hasDict]; exact ih (by simpa [PyData.canLay0] using h)) (fun ds ih h => by rw [PyData.hasDict]; exact ih (by simpa [PyData.canLay0] using h)) (fun kvs _ h => by simp [PyData.canLay0] at h)
      (fun _ => by simp [PyData.hasDictAll]) (fun x xs h1 h2 h => by
        have h' : x.canLay0 = true ∧ PyData.canLayAll0 xs = true := by simpa [PyData.canLayAll0] using h
        rw [PyData.hasDictAll, h1 h'.1, h2 h'.2]; rfl) trivial (fun _ _ _ _ => trivial) (fun _ _ _ _ => trivial) d
  exact both d h
theorem cr_reprD (hgd : X.A.guards = some []) (hu : X.A.units + 64 < cLine) : CallR X (.builtin "repr") (fun vs H Q => ∃ v d, vs = [v] ∧ Dp X.K H v d ∧ Shown d ∧ Q (.str d.shown) H) := by
  intro pins s σ H vs us Q I r h
  obtain ⟨v, d, rfl, dv, sh, q⟩ := h
  obtain ⟨u, rfl, rx⟩ := r.one
  have hd := sh.shp.dep
  obtain ⟨as, rd⟩ := Dp.reads I d v u dv rx
  have ref : ∀ b, u = .ref b → wpAny (model X.prog X.w) X.A (call (.builtin "repr") [u]) (EP X pins σ Q) X.xe s := fun b e => by
    subst e
    exact repr_of_reads' rd sh.show_ (PyData.noDict_hsm (noDict_of_lay d sh.shp.lay)) hgd (by omega) (fun _ _ e => e) (fun h' t tk hk => ⟨.str d.shown, H, I.kept hk, ⟨_, rfl⟩, q⟩) sh.size
  rcases sh.way with ⟨i, rfl⟩ | ⟨xs, rfl⟩ | ⟨xs, rfl⟩
  · cases dv
    refine SkE.call_repr_int pins s σ H [.int i] [u] Q I (.cons rx .nil) ⟨i, rfl, ?_, ?_⟩
    · have := sh.show_
      simpa [PyData.showable] using this
    · have e : (PyData.int i).shown = toString i := by rw [PyData.shown]
      rw [e] at q
      exact q
  · cases dv with
    | tup hs hd => cases rx; exact ref _ rfl
  · cases dv with
    | lst hs hd => cases rx; exact ref _ rfl
theorem pd_repr (hgd : X.A.guards = some []) (hu : X.A.units + 64 < cLine) (hm : X.mg "repr" = none) (ha : PE X e (teD X.w X.K ds d)) (sh : Shown d) (hg : Gl X "repr" := by rfl) (he : starEach [e] X.env = (false, eval e X.env) :: starEach [] X.env := by rfl) : PE X (.Call (.Name "repr" p) [e] [] pos) (teD X.w X.K ds (.str d.shown)) :=
  pd_callB (dl := [d]) (cr_reprD hgd hu) (fun vs H Q h g => by
    obtain ⟨v, rfl, hv⟩ := dpa1 h
    exact ⟨v, d, rfl, hv, sh, g.now (.str _)⟩) hm (ad_cons ha ad_nil he) hg (by decide +kernel) (by decide) (by decide) he
end
end G33
set_option Elab.async false
set_option linter.all false
set_option maxRecDepth 100000
set_option maxHeartbeats 1000000
namespace G33
open PySem PySem.Spec PyProof.Rows L2
/-! ### sorted(a tuple of ints) -/
section
variable {prog : Program} {w : World} {A : Around} {E : Value → Shared → Prop} {s : Shared}
theorem collectT {t : Addr} {vs : List Value} {Q : List Value → Shared → Prop} (ht : s.heap.IsTuple t vs.toArray) (hz : vs.length ≤ sizeLine)
    (h : Q vs { s with heap := (s.heap.push (seqObj "list" #[] 0)).update s.heap.objs.size (Obj.mapSeq (· ++ vs.toArray)) }) : wpAny (model prog w) A (collect (.ref t)) Q E s := by
  obtain ⟨o, ho, hcls, n, hdat⟩ := id ht
  unfold collect
  refine wpAny_bind (wpAny_runValue (codeAny_builtin entry_proto_collect' (?_ : wpAny _ _ (do again (.builtin "list.__iadd__" ⟨[← newList [], .ref t], []⟩)) _ _ s)))
  refine wpAny_bind (wpAny_newList (wpAny_pure ⟨Code.quiet_builtin _ (by decide +kernel), codeAny_builtin entry_list_iadd' (?_ : wpAny _ _ (Builtin.List.listExtendWith (.ref s.heap.objs.size) (.ref t) (.ref s.heap.objs.size)) _ _ { s with heap := s.heap.push (seqObj "list" #[] 0) })⟩))
  unfold Builtin.List.listExtendWith
  have ho2 : (s.heap.push (seqObj "list" #[] 0)).get? t = some o := Heap.get?_push_of_some _ ho
  refine wpAny_bind (wpAny_typeOf (T := "tuple") ⟨o, ho2, hcls⟩ ?_)
  rw [if_pos (by rw [show (Value.type "tuple" == Value.type "tuple") = true from rfl]; simp)]
  refine wpAny_bind (listItems_at ho2 hdat (wpAny_bind (listItems_at (xs := #[]) (n := 0) (Heap.get?_push_size _ rfl) rfl ?_)))
  rw [if_neg (by simp)]
  refine wpAny_bind (listUpdate_at (xs := #[]) (n := 0) (Heap.get?_push_size _ rfl) rfl (wpAny_pure (?_ : wpAny (model prog w) A (do let o ← load s.heap.objs.size; match o.data with | .seq xs _ => Pure.pure xs.toList | _ => unsupported "internal:collect") Q E _)) (Nat.zero_le _) (by show (#[] ++ vs.toArray).size ≤ sizeLine + 1; simp only [Array.size_append, List.size_toArray, List.length_nil]; omega))
  refine wpAny_bind (wpAny_load (get?_update_seq (Heap.get?_push_size _ rfl) _) (?_ : wpAny _ _ (Pure.pure ((#[] : Array Value) ++ vs.toArray).toList) Q E _))
  rw [show ((#[] : Array Value) ++ vs.toArray).toList = vs by simp]
  exact wpAny_pure h
theorem sortedT_ord {t : Addr} {vs : List Value} {ltv : Value → Value → Bool} {Q : Value → Shared → Prop} (O : SrtO.Swo ltv) (ht : s.heap.IsTuple t vs.toArray) (hz : vs.length ≤ sizeLine)
    (hS : 2 ≤ vs.length → ∀ (h₁ : Heap) (a : Addr), h₁.get? a = some (seqObj "list" vs.toArray 0) → (∀ b o, s.heap.get? b = some o → b ≠ a ∧ h₁.get? b = some o) → SrtO.SortableO prog w A.in1.in1 { s with heap := h₁ } a vs ltv)
    (h : ∀ out : List Value, SrtO.Srtd ltv out → SrtO.Stb ltv out vs → Q (.ref (s.heap.objs.size + 1)) { s with heap := sortedAll s.heap vs out.toArray }) : wpAny (model prog w) A (call (.builtin "sorted") [.ref t]) Q E s := by
  refine Calls.call_function_entry kind_sorted plain_sorted entry_sorted (args_sorted1 _) ?_
  unfold Builtin.«sorted»
  refine wpAny_bind (m := checkCount "sorted" 1 1 _) (wpAny_pure (wpAny_bind (collectT ht hz (wpAny_bind (wpAny_newList ?_ hz)))))
  have hsize : ((s.heap.push (seqObj "list" #[] 0)).update s.heap.objs.size (Obj.mapSeq (· ++ vs.toArray))).objs.size = s.heap.objs.size + 1 := by rw [Heap.size_update, size_push']
  generalize hh : (s.heap.push (seqObj "list" #[] 0)).update s.heap.objs.size (Obj.mapSeq (· ++ vs.toArray)) = hp at hsize ⊢
  have hoL : (hp.push (seqObj "list" vs.toArray 0)).get? (s.heap.objs.size + 1) = some (seqObj "list" vs.toArray 0) := by rw [← hsize]; exact Heap.get?_push_size _ rfl
  have keep : ∀ b o, s.heap.get? b = some o → b ≠ s.heap.objs.size + 1 ∧ (hp.push (seqObj "list" vs.toArray 0)).get? b = some o := fun b o q => by
    have hlt : b < s.heap.objs.size := Heap.lt_size q
    refine ⟨Nat.ne_of_lt (Nat.lt_succ_of_lt hlt), Heap.get?_push_of_some _ ?_⟩
    rw [← hh]
    exact (Heap.get?_update_ne _ _ _ _ (Nat.ne_of_lt hlt)).trans (Heap.get?_push_of_some _ q)
  subst hh
  rw [hsize]
  exact wpAny_bind (wpAny_holding (wpAny_call_entry slot_list_sort ⟨_, hoL, rfl⟩ entry_list_sort (SrtO.list_sort_ord O hoL hz (fun h2 => hS h2 _ _ hoL keep) fun out hs hb => ⟨_, rfl, wpAny_pure ⟨_, rfl, h out hs hb⟩⟩) (args_list_sort _)))
end
def rSortedTI (K : PySem.W.Frag) : List V → Hp → VK → Prop := fun vs H Q => ∃ (a : Addr) (ns : List Int), vs = [V.ref a] ∧ SqT K H a (ns.map V.int) ∧ ns.length ≤ 100000 ∧ ∀ (ns' : List Int) (p : Addr), ns'.Perm ns → ns'.Pairwise (· ≤ ·) → H p = none → Q (.ref p) (upd H p (.lst (ns'.map V.int)))
theorem cr_sortedTI {X : Cx} : CallR X (.builtin "sorted") (rSortedTI X.K) := by
  intro pins s σ H vs us Q I r h
  obtain ⟨a, ns, rfl, hs, hn, q⟩ := h
  obtain ⟨its, rv, hl, hz⟩ := I.tuple hs
  rw [Vals.ref1 r]
  have hi := rv.ints
  have hzi : its.length ≤ sizeLine := by rw [← rv.length, List.length_map]; exact Evl.sz_of hn
  refine sortedT_ord SrtO.swo_int hl hzi (fun h2 h₁ a' _ _ => SrtO.ints_sortable hi h2) fun out h1 h2 => ?_
  obtain ⟨k1, k2, k3⟩ := SrtO.ints_out hi h1 h2
  obtain ⟨ep, he'⟩ := PyProof.Rows.sortedAll_at s.heap its out.toArray
  have hlen : ((out.map SrtO.iv).map V.int).length ≤ sizeLine := by
    rw [List.length_map, k2.length_eq]
    exact Evl.sz_of hn
  exact ⟨.ref _, upd H (s.heap.objs.size + 1) (.lst ((out.map SrtO.iv).map V.int)), I.laid (t' := s.toks) (fun _ _ => PyProof.Rows.sortedAll_old) (Nat.le_succ _) ⟨hlen, out, ep, vals_of_ints k1, he'⟩, rfl, q _ _ k2 k3 (I.hok.fresh (Nat.le_succ _))⟩
theorem sorted_unique : ∀ {a b : List Int}, a.Perm b → a.Pairwise (· ≤ ·) → b.Pairwise (· ≤ ·) → a = b := fun {a b} p ha hb => p.eq_of_pairwise (fun x y _ _ h1 h2 => Int.le_antisymm h1 h2) ha hb
section
variable {X : Cx} {ds : Ds} {ns : List Int} {e : Expr} {p pos : Pos}
/-- sorted(ints), a list or a tuple -/
theorem po_sortedI {t : Bool} {ms : List Int} (hm : X.mg "sorted" = none) (hl : ns.length ≤ 100000) (hp : ms.Perm ns) (hs : ms.Pairwise (· ≤ ·)) (ha : PE X e (teD X.w X.K ds (if t then encL ns else .list (ns.map .int)))) (hg : Gl X "sorted" := by rfl) (he : starEach [e] X.env = (false, eval e X.env) :: starEach [] X.env := by rfl) :
    PE X (.Call (.Name "sorted" p) [e] [] pos) (teO X.w X.K ds (oN X.K (ms.map .int))) := by
  have fin : ∀ {ns' : List Int}, ns'.Perm ns → ns'.Pairwise (· ≤ ·) → ns' = ms := fun h1 h2 => sorted_unique (h1.trans hp.symm) h2 hs
  cases t with
  | true =>
    refine pe_imp (pe_callB cr_sortedTI hg hm (by decide +kernel) (pa_cons ha pa_nil he) (by decide) (by decide) he (by rfl)) fun σ H Q qq => ⟨qq.1, fun v H1 e1 h1 => ?_⟩
    cases h1 with
    | tup hs' hd =>
      refine ⟨_, ns, rfl, by rw [← dpa_ints hd]; exact hs', hl, fun ns' p h1 h2 hp' => ?_⟩
      rw [fin h1 h2]
      exact qq.2 H1 _ _ e1 ⟨Evl.Ex.new hp', p, _, rfl, hp', upd_same, ints_dpa _⟩
  | false =>
    refine pe_imp (pe_callB cr_sortedI hg hm (by decide +kernel) (pa_cons ha pa_nil he) (by decide) (by decide) he (by rfl)) fun σ H Q qq => ⟨qq.1, fun v H1 e1 h1 => ?_⟩
    cases h1 with
    | lst hs' hd =>
      refine ⟨_, ns, rfl, by rw [← dpa_ints hd]; exact hs', fun ns' p h1 h2 hp' => ?_⟩
      rw [fin h1 h2]
      exact qq.2 H1 _ _ e1 ⟨Evl.Ex.new hp', p, _, rfl, hp', upd_same, ints_dpa _⟩
end
end G33
set_option Elab.async false
set_option linter.all false
set_option maxRecDepth 100000
set_option maxHeartbeats 2000000
namespace G33
open PySem PySem.Spec PyProof.Rows L2
def mixed (c n : Int) : Int := ((c * (1 + 2 * n) * 48271 % 2147483647 + 7919 * n * n + 104729 * n) * 69621) % 2147483629 / 7
def moreL (sold : List Int) (f : Nat) : List Int := (List.range sold.length).map fun k => sold.getD k 0 + if k = f then 1 else 0
theorem moreL_bump {sold : List Int} {f : Nat} (h : f < sold.length) : moreL sold f = bump sold f 1 := by
  unfold moreL bump
  refine List.ext_getElem (by simp) fun n h1 h2 => ?_
  have hn : n < sold.length := by simpa using h1
  rw [List.getElem_map, List.getElem_range, List.getElem_set]
  by_cases e : f = n
  · subst e
    simp
  · rw [if_neg e, if_neg (fun z => e z.symm), List.getD_eq_getElem?_getD, List.getElem?_eq_getElem hn]
    simp
theorem sum_take_bump {m : Int} : ∀ {sold : List Int} {f k : Nat}, f < sold.length → f ≤ k → ((bump sold f m).take (k + 1)).sum = (sold.take (k + 1)).sum + m
  | [], f, k, h, _ => by simp at h
  | a :: l, 0, k, _, _ => by
    simp [bump]
    omega
  | a :: l, f + 1, 0, _, h => by omega
  | a :: l, f + 1, k + 1, h, hk => by
    have ih := sum_take_bump (m := m) (sold := l) (f := f) (k := k) (by simpa using h) (by omega)
    simp only [bump, List.set_cons_succ, List.getD_cons_succ, List.take_succ_cons, List.sum_cons] at ih ⊢
    omega
theorem empty_filter {α β : Type} (l : List α) (p : α → Bool) (g : α → β) : ((l.filter p).map g).isEmpty = l.all fun a => !p a := by
  induction l with
  | nil => rfl
  | cons a l ih =>
    cases h : p a
    · simp only [List.filter_cons, h, List.all_cons]
      simpa using ih
    · simp [List.filter_cons, h]
theorem all_congr2 {α : Type} {l : List α} {p q : α → Bool} (h : ∀ a ∈ l, p a = q a) : l.all p = l.all q := by
  induction l with
  | nil => rfl
  | cons a l ih => rw [List.all_cons, List.all_cons, h a (by simp), ih fun b hb => h b (by simp [hb])]
theorem worth_range {h : Hall} {c : List Int} (hl : c.length = h.fares.length) : ((List.range c.length).map fun k => h.fares.getD k 0 * c.getD k 0).sum = worth h c := by
  unfold worth
  congr 1
  refine List.ext_getElem (by simp [hl]) fun n h1 h2 => ?_
  have hn : n < c.length := by simpa using h1
  have hn2 : n < h.fares.length := by omega
  simp [List.getElem?_eq_getElem hn, List.getElem?_eq_getElem hn2]
theorem less_head (sold : List Int) (f : Nat) (hf : f ≤ sold.length) : ((List.range f).filter fun k => decide (0 < sold.getD k 0)).head? = match cheap sold with
    | some i => if i < f then some i else none
    | none => none := by
  rw [List.head?_filter]
  have e : List.range sold.length = List.range f ++ (List.range (sold.length - f)).map (f + ·) := by
    rw [← List.range_add]
    congr 1
    omega
  unfold cheap
  rw [e, List.find?_append]
  cases q : (List.range f).find? fun i => decide (0 < sold.getD i 0) with
  | some i =>
    have := List.mem_of_find?_eq_some q
    simp [List.mem_range.mp this]
  | none =>
    simp only [Option.none_or]
    cases q2 : ((List.range (sold.length - f)).map (f + ·)).find? fun i => decide (0 < sold.getD i 0) with
    | none => rfl
    | some i =>
      have := List.mem_of_find?_eq_some q2
      obtain ⟨j, _, rfl⟩ := List.mem_map.mp this
      simp
section
variable {P : Program} {w : World} {K : PySem.W.Frag} {mg : Str → Option Value} {base : Heap}
abbrev N_law_mixed : List Str := ["_law_cell", "_law_n", "_law_blend"]
theorem sc_law_mixed : FnScope N_law_mixed ["_law_cell", "_law_n"] (defScope (top 75)) := ⟨rfl, rfl, rfl, by decide +kernel, rfl, by decide +kernel, by decide +kernel⟩
def R_law_mixed : List PyData → PyData → Prop := fun dl d => ∃ c n : Int, 0 ≤ n ∧ n ≤ 2 ^ 40 ∧ dl = [.int c, .int n] ∧ d = .int (mixed c n)
theorem ok_law_mixed (T : Fx K mg) : OkF P w K mg base 1 "_law_mixed" ["_law_cell", "_law_n"] (spD K 2 R_law_mixed) := by
  refine mk_ok T 38 rfl sc_law_mixed rfl (fun _ _ _ _ _ _ us hl => match us, hl with | [_, _], _ => rfl) fun cdv A outer s H E hr dl d hR _ => ?_
  obtain ⟨c, n, h0, h1, rfl, rfl⟩ := hR
  exact
    (sr_asg 2 sc_law_mixed.nd (pd_add (pd_add (pd_mod (pd_toInt T.f_int (pd_mul (pd_mul (pd_name 0) (pd_add pd_int (pd_mul pd_int (pd_name 1) (.inl (by decide)))) (.inr (by omega))) pd_int (.inr (by decide)))) pd_int (by decide)) (pd_mul (pd_mul pd_int (pd_name 1) (.inl (by decide))) (pd_name 1) (.inr (by omega)))) (pd_mul pd_int (pd_name 1) (.inl (by decide))))
    (sr_ret (pd_fdiv (pd_mod (pd_toInt T.f_int (pd_mul (pd_name 2) pd_int (.inr (by decide)))) pd_int (by decide)) pd_int (by unfold CDiv; decide))))
abbrev N_law_lets : List Str := ["_law_yard_here", "_law_book_here", "_law_sold", "_law_call_so", "_law_more", "_law_over", "_law_k"]
theorem sc_law_lets : FnScope N_law_lets ["_law_yard_here", "_law_book_here", "_law_sold", "_law_call_so"] (defScope (top 84)) := ⟨rfl, rfl, rfl, by decide +kernel, rfl, by decide +kernel, by decide +kernel⟩
theorem ok_law_lets (T : Fx K mg) : ∀ n : Nat, OkF P w K mg base (n + 1) "_law_lets" ["_law_yard_here", "_law_book_here", "_law_sold", "_law_call_so"] (spD K 4 (R_lets_of n))
  | 0 => by
    refine mk_ok T 47 rfl sc_law_lets rfl (fun _ _ _ _ _ _ us hl => match us, hl with | [_, _, _, _], _ => rfl) fun cdv A outer s H E hr dl d hR _ => ?_
    obtain ⟨h, r, sold, fare, ho, hd, _⟩ := hR
    exact absurd hd (Nat.not_lt_zero _)
  | n + 1 => by
    have ih := ok_law_lets T n
    refine mk_ok T 47 rfl sc_law_lets rfl (fun _ _ _ _ _ _ us hl => match us, hl with | [_, _, _, _], _ => rfl) fun cdv A outer s H E hr dl d hR _ => ?_
    obtain ⟨h, r, sold, fare, ho, hd, hs, hn, hf, rfl, rfl⟩ := hR
    cases r with
    | plain w l =>
      have hll : l.length = h.fares.length := LimOk.len ho
      cases w with
      | apart => exact
        (sr_no (pt_eq (pt_eqS (pd_ix (pd_name 1) pd_int rfl) pd_str) rfl)
        (sr_no (pt_eq (pt_eqS (pd_ix (pd_name 1) pd_int rfl) pd_str) rfl)
        (sr_no (pt_eq (pt_eqS (pd_ix (pd_name 1) pd_int rfl) pd_str) rfl)
        (sr_if (k := true) (pt_eq (pt_eqS (pd_ix (pd_name 1) pd_int rfl) pd_str) rfl) (fun hb =>
          (sr_ret (pd_eq (pd_le (pd_add (pd_ix (pd_name 2) (pd_name 3) (atI_ints sold fare (by omega))) pd_int) (pd_ix (pd_ix (pd_name 1) pd_int rfl) (pd_name 3) (atI_ints l fare (by omega)))) (by show _ = PyData.bool (decide _); congr 1)))) (fun hb => nomatch hb)))))
      | kept => exact
        (sr_no (pt_eq (pt_eqS (pd_ix (pd_name 1) pd_int rfl) pd_str) rfl)
        (sr_no (pt_eq (pt_eqS (pd_ix (pd_name 1) pd_int rfl) pd_str) rfl)
        (sr_no (pt_eq (pt_eqS (pd_ix (pd_name 1) pd_int rfl) pd_str) rfl)
        (sr_no (pt_eq (pt_eqS (pd_ix (pd_name 1) pd_int rfl) pd_str) rfl)
        (sr_if (k := true) (pt_eq (pt_eqS (pd_ix (pd_name 1) pd_int rfl) pd_str) rfl) (fun hb =>
          (sr_ret (pd_eq (pd_lt (pd_add (pd_sumT rfl T.f_sum (pd_name 2)) (pd_ix (pd_ix (pd_name 1) pd_int rfl) (pd_name 3) (atI_ints l fare (by omega)))) (pd_ix (pd_name 0) pd_int rfl)) (by show PyData.bool (decide _) = PyData.bool (decide _); congr 1; exact decide_eq_decide.mpr (by omega))))) (fun hb => nomatch hb))))))
      | nested =>
        have hat : ∀ k, k < sold.length → atI (sold.map PyData.int) (k : Int) = some (.int (sold.getD k 0)) := fun k hk => atI_ints sold k hk
        refine
        (sr_no (pt_eq (pt_eqS (pd_ix (pd_name 1) pd_int rfl) pd_str) rfl)
        (sr_no (pt_eq (pt_eqS (pd_ix (pd_name 1) pd_int rfl) pd_str) rfl)
        (sr_no (pt_eq (pt_eqS (pd_ix (pd_name 1) pd_int rfl) pd_str) rfl)
        (sr_no (pt_eq (pt_eqS (pd_ix (pd_name 1) pd_int rfl) pd_str) rfl)
        (sr_no (pt_eq (pt_eqS (pd_ix (pd_name 1) pd_int rfl) pd_str) rfl)
        (sr_asg (d1 := .list ((moreL sold fare).map .int)) 4 sc_law_lets.nd (pd_eq (pd_lc1a 6 (List.range sold.length) (fun k => .int (k : Nat)) rfl sc_law_lets.nd (wd_eq (wd_range1 T.f_range (pd_len T.f_len (pd_name 2)) ?_) ?_) (blkOk_by (N := N_law_lets) (sc := defScope (top 84)) (by decide +kernel)) (fun _ _ _ _ _ => pg_name sc_law_lets.nd rfl (.inl rfl)) ?_ (fun k => .int (sold.getD k 0 + if k = fare then 1 else 0)) (fun a ha => pureI _) (fun a ha _ _ _ _ _ => (pd_eq (pd_add (pd_ix (pd_name 2) (pd_name 6) (hat a (List.mem_range.mp ha))) (pd_toIntB T.f_int (pd_eqS (pd_name 6) (pd_name 3)))) ?_))) ?_)
        (sr_asgL (asg_lc1 5 6 (List.range (sold.length - fare)) (fun i => .int ((fare + i : Nat) : Int)) (fun i => decide (l.getD (fare + i) 0 < ((moreL sold fare).take (fare + i + 1)).sum)) (fun i => .int ((fare + i : Nat) : Int)) rfl sc_law_lets.nd (wd_eq (wd_range2 T.f_range (pd_name 3) (pd_len T.f_len (pd_name 2)) ?_) ?_) (blkOk_by (N := N_law_lets) (sc := defScope (top 84)) (by decide +kernel)) (fun _ _ _ _ _ => pg_name sc_law_lets.nd rfl (.inl rfl)) (fun a ha => pureI _) ?_ (fun a ha _ _ _ _ _ => (ptd_one (pt_gt (pd_sum (ns := (moreL sold fare).take (fare + a + 1)) rfl T.f_sum (pd_eq (pd_slL (pd_name 4) od_none (od_some (pd_add (pd_name 6) pd_int))) ?_)) (pd_ix (pd_ix (pd_name 1) pd_int rfl) (pd_name 6) (atI_ints l (fare + a) ?_))))) (fun a ha hf _ _ _ _ _ => (pd_name 6)))
        (sr_ret (pd_eq (pd_eqD hr.units (pd_name 5) (pd_lst ad_nil (by exact lle rfl)) ((shp_mapL (n := 0) fun _ _ => shp_int _).ok (by decide)) sh_nilL) ?_)))))))))
        · rw [List.length_map]; omega
        · rw [List.length_map, rgD_nat0, List.map_map]; rfl
        · rw [List.length_range]; omega
        · show PyData.int (_ + if PyData.eqv (.int a) (.int fare) = true then 1 else 0) = _
          rw [eqv_int]
          by_cases e : a = fare
          · subst e
            simp
          · rw [if_neg e, if_neg (by rw [decide_eq_true_eq]; omega)]
        · rw [moreL, List.map_map]; rfl
        · rw [List.length_map]; omega
        · rw [List.length_map, rgD_nat, List.map_map]; rfl
        · rw [List.length_range]; omega
        · rw [cutD_map]
          show PyData.list ((cutD _ none (some (((fare + a : Nat) : Int) + 1))).map .int) = _
          rw [show (((fare + a : Nat) : Int) + 1) = ((fare + a + 1 : Nat) : Int) by omega, cutD_to]
        · have := List.mem_range.mp ha; omega
        · show PyData.bool (PyData.eqv (.list _) (.list [])) = .bool (letsP h .nested l sold fare)
          rw [eqv_nilL, empty_filter]
          congr 1
          unfold letsP
          refine all_congr2 fun i hi => ?_
          have := List.mem_range.mp hi
          rw [moreL_bump (by omega), sum_take_bump (by omega) (by omega), ← decide_not]
          exact decide_eq_decide.mpr (by omega)
    | two b r1 r2 =>
      have d1 : r1.deep < n := by rw [Ru.deep] at hd; omega
      have d2 : r2.deep < n := by rw [Ru.deep] at hd; omega
      cases b with
      | true => exact
        (sr_if (k := true) (pt_eq (pt_eqS (pd_ix (pd_name 1) pd_int rfl) pd_str) rfl) (fun hb =>
          (sr_ret (pd_eq (pd_and (pd_fn ih hr ⟨h, r1, sold, fare, ok_of_in ho.1, d1, hs, hn, hf, rfl, rfl⟩ (ad_cons (pd_name 0) (ad_cons (pd_ix (pd_name 1) pd_int rfl) (ad_cons (pd_name 2) (ad_cons (pd_name 3) ad_nil)))) (Nat.le_refl _)) (fun hb => (pd_one (pd_fn ih hr ⟨h, r2, sold, fare, ok_of_in ho.2, d2, hs, hn, hf, rfl, rfl⟩ (ad_cons (pd_name 0) (ad_cons (pd_ix (pd_name 1) pd_int rfl) (ad_cons (pd_name 2) (ad_cons (pd_name 3) ad_nil)))) (Nat.le_refl _))))) rfl))) (fun hb => nomatch hb))
      | false => exact
        (sr_no (pt_eq (pt_eqS (pd_ix (pd_name 1) pd_int rfl) pd_str) rfl)
        (sr_if (k := true) (pt_eq (pt_eqS (pd_ix (pd_name 1) pd_int rfl) pd_str) rfl) (fun hb =>
          (sr_ret (pd_eq (pd_or (pd_fn ih hr ⟨h, r1, sold, fare, ok_of_in ho.1, d1, hs, hn, hf, rfl, rfl⟩ (ad_cons (pd_name 0) (ad_cons (pd_ix (pd_name 1) pd_int rfl) (ad_cons (pd_name 2) (ad_cons (pd_name 3) ad_nil)))) (Nat.le_refl _)) (fun hb => (pd_one (pd_fn ih hr ⟨h, r2, sold, fare, ok_of_in ho.2, d2, hs, hn, hf, rfl, rfl⟩ (ad_cons (pd_name 0) (ad_cons (pd_ix (pd_name 1) pd_int rfl) (ad_cons (pd_name 2) (ad_cons (pd_name 3) ad_nil)))) (Nat.le_refl _))))) rfl))) (fun hb => nomatch hb)))
    | oust r1 f =>
      have d1 : r1.deep < n := by rw [Ru.deep] at hd; omega
      exact
      (sr_no (pt_eq (pt_eqS (pd_ix (pd_name 1) pd_int rfl) pd_str) rfl)
      (sr_no (pt_eq (pt_eqS (pd_ix (pd_name 1) pd_int rfl) pd_str) rfl)
      (sr_if (k := true) (pt_eq (pt_eqS (pd_ix (pd_name 1) pd_int rfl) pd_str) rfl) (fun hb => (sr_ret (pd_fn ih hr ⟨h, r1, sold, fare, ok_of_in ho.1, d1, hs, hn, hf, rfl, rfl⟩ (ad_cons (pd_name 0) (ad_cons (pd_ix (pd_name 1) pd_int rfl) (ad_cons (pd_name 2) (ad_cons (pd_name 3) ad_nil)))) (Nat.le_refl _)))) (fun hb => nomatch hb))))
abbrev N_law_step : List Str := ["_law_yard_here", "_law_book_here", "_law_sold", "_law_spent", "_law_call_so", "_law_many", "_law_less", "_law_k"]
theorem sc_law_step : FnScope N_law_step ["_law_yard_here", "_law_book_here", "_law_sold", "_law_spent", "_law_call_so"] (defScope (top 85)) := ⟨rfl, rfl, rfl, by decide +kernel, rfl, by decide +kernel, by decide +kernel⟩
def sds (h : Hall) (r : Ru) (sold : List Int) (paid : Int) (f : Nat) (o5 o6 : Option PyData) : Ds := [some h.enc, some r.enc, some (encL sold), some (.int paid), some (.int f), o5, o6, none]
theorem sds_pu {h : Hall} {r : Ru} {sold : List Int} {paid : Int} {f : Nat} : PuD (sds h r sold paid f none none) := .p (pure_hall h) (.p (pure_ru r) (.p (pure_encL _) (.p (pure_int _) (.p (pure_int _) (.n (.n (.n .nil)))))))
structure SI (w : World) (K : PySem.W.Frag) (H0 : Hp) (h : Hall) (r : Ru) (sold : List Int) (paid : Int) (f : Nat) (many : List Int) (o6 : Option PyData) (σ : L2.St) (H : Hp) : Prop where
  ex : Ex H0 H
  lc : Lc w K H σ (sds h r sold paid f (some (.list (many.map .int))) o6)
  li : ∃ q vs, LiA K H σ 5 q vs (many.map .int) ∧ H0 q = none
theorem SI.up {H0 H H' : Hp} {h : Hall} {r : Ru} {sold : List Int} {paid : Int} {f : Nat} {many : List Int} {o6 : Option PyData} {σ : L2.St} (x : SI w K H0 h r sold paid f many o6 σ H) (e : Ex H H') : SI w K H0 h r sold paid f many o6 σ H' := ⟨x.ex.trans e, x.lc.up e, let ⟨q, vs, a, b⟩ := x.li; ⟨q, vs, a.up e, b⟩⟩
/-- many[j] = an int -/
theorem SI.put {H0 H H1 : Hp} {h : Hall} {r : Ru} {sold : List Int} {paid : Int} {f : Nat} {many : List Int} {o6 : Option PyData} {σ : L2.St} (x : SI w K H0 h r sold paid f many o6 σ H) {q : Addr} {vs : List V} (Li : LiA K H σ 5 q vs (many.map .int)) (nq : H0 q = none) {j : Nat} {i : Int} {v : V} (e : Ex H H1) (dv : Dp K H1 v (.int i)) :
    SI w K H0 h r sold paid f (many.set j i) none σ (upd H1 q (.lst (vs.set j v))) := by
  have L1 := Li.up e
  have al : AtLst q H1 (upd H1 q (.lst (vs.set j v))) := ⟨⟨_, L1.here⟩, fun b hb => upd_ne hb⟩
  have dd : DpAll K (upd H1 q (.lst (vs.set j v))) (vs.set j v) ((many.set j i).map .int) := by
    rw [List.map_set]
    exact dpa_set (dv.upT (pure_int _) al.exT) j (dpa_upT al.exT _ (pureAll_map fun a _ => pure_int a) L1.data)
  have LL : LiA K (upd H1 q (.lst (vs.set j v))) σ 5 q (vs.set j v) ((many.set j i).map .int) := ⟨L1.slot, upd_same, dd⟩
  have l0 : Lc w K H1 σ (sds h r sold paid f none none) := SubD.lc (.same (.same (.same (.same (.same (.skip (.skip (.same .nil)))))))) (x.lc.up e)
  exact ⟨Evl.Ex.mut (x.ex.trans e) nq, (l0.lput al sds_pu).li LL, q, _, LL, nq⟩
theorem ok_law_step (T : Fx K mg) : OkF P w K mg base 6 "_law_step" ["_law_yard_here", "_law_book_here", "_law_sold", "_law_spent", "_law_call_so"] (spD K 5 R_step_of) := by
  refine mk_ok T 48 rfl sc_law_step rfl (fun _ _ _ _ _ _ us hl => match us, hl with | [_, _, _, _, _], _ => rfl) fun cdv A outer sh H E hr dl d hR _ => ?_
  obtain ⟨h, r, sold, paid, f, so, rfl, rfl⟩ := hR
  obtain ⟨ho, hd, hl, hn, hf⟩ := so
  refine sr_h fun σ0 H0 L0 => ?_
  refine hs_cons (M := SI w K H0 h r sold paid f sold none) (hs_asgO (ds := sds h r sold paid f none none) (O := oN K (sold.map .int)) 5 sc_law_step.nd (po_list T.f_list (pd_name 2) (.inr rfl)) (fun σ H q => by obtain ⟨rfl, rfl⟩ := q; exact L0) (fun σ H H1 v H2 q e o => ?_)) ?_
  · obtain ⟨rfl, rfl⟩ := q
    obtain ⟨x, q, vs, rfl, nq, hq, dq⟩ := o
    have ee := e.trans x
    exact ⟨ee, (L0.up ee).set 5 (.lst (.inl (.inl hq)) dq), q, vs, ⟨set_eq (by rw [L0.1]; exact lle rfl), hq, dq⟩, ex_none e nq⟩
  have hbl : ∀ (l : List Int) i m, (bump l i m).length = l.length := bump_len
  refine hs_cons (M := fun σ H => (decide (sold.sum < h.seats) && lets h r sold f) = false ∧ SI w K H0 h r sold paid f sold none σ H) (hs_if (k := decide (sold.sum < h.seats) && lets h r sold f) (ds := sds h r sold paid f (some (.list (sold.map .int))) none)
    (w_t (wt_and (pt_lt (pd_sumT rfl T.f_sum (pd_name 2)) (pd_ix (pd_name 0) pd_int rfl)) (fun hb => (wt_and1 (pt_b (pd_fn (ok_law_lets T 4) hr ⟨h, r, sold, f, ho, by omega, hl, hn, hf, rfl, rfl⟩ (ad_cons (pd_name 0) (ad_cons (pd_name 1) (ad_cons (pd_name 2) (ad_cons (pd_name 4) ad_nil)))))))))) (fun σ H q => q.lc) (fun σ H H' q e => q.up e) (fun hk => ?_) (fun hk => hs_conseq hs_nil (fun σ H q => q) (fun σ H q => ⟨hk, q⟩))) ?_
  · -- taken
    refine hs_cons (M := SI w K H0 h r sold paid f (bump sold f 1) none) (hp_setL (d := .int (sold.getD f 0 + 1)) (ds := sds h r sold paid f (some (.list (sold.map .int))) none) (k := f) 5 (pd_name 4) (pd_add (pd_ixL (pd_name 5) (pd_name 4) (atI_ints sold f (by omega))) pd_int) (fun σ H q => q.lc) (fun σ H q => ?_)) ?_
    · obtain ⟨q', vs, Li, nq⟩ := q.li
      exact ⟨q', vs, Li.slot, Li.here, by rw [dpa_len Li.data, List.length_map]; omega, fun v H1 e dv => q.put Li nq e dv⟩
    · refine hs_one (hs_ret (ds := sds h r sold paid f (some (.list ((bump sold f 1).map .int))) none) (d := (step h r sold paid f).enc) (pd_eq (pd_tup (ad_cons (pd_tuple T.f_tuple (pd_name 5) (.inl rfl)) (ad_cons (pd_name 3) (ad_cons pd_str ad_nil))) (by exact lle rfl)) (by rw [step_taken hk]; rfl)) (fun σ H q => q.lc) (fun σ H v H' q e dv => ⟨q.ex.trans e, dv⟩))
  refine hs_pre fun σ1 H1 q1 => ?_
  obtain ⟨hk, q1⟩ := q1
  have hless := less_head sold f (by omega)
  refine hs_cons (M := SI w K H0 h r sold paid f sold (some (.list (((List.range f).filter fun k => decide (0 < sold.getD k 0)).map fun k => .int (k : Nat))))) (hs_asgL (t := 6) (ds := sds h r sold paid f (some (.list (sold.map .int))) none) (asg_lc1 6 7 (List.range f) (fun k => .int (k : Nat)) (fun k => decide (0 < sold.getD k 0)) (fun k => .int (k : Nat)) rfl sc_law_step.nd (wd_eq (wd_range1 T.f_range (pd_name 4) (by omega)) (by rw [rgD_nat0, List.map_map]; rfl)) (blkOk_by (N := N_law_step) (sc := defScope (top 85)) (by decide +kernel)) (fun _ _ _ _ _ => pg_name sc_law_step.nd rfl (.inl rfl)) (fun a ha => pureI _) (by rw [List.length_range]; omega) (fun a ha _ _ _ _ _ => (ptd_one (pt_gt (pd_ix (pd_name 2) (pd_name 7) (atI_ints sold a (by have := List.mem_range.mp ha; omega))) pd_int))) (fun a ha hf _ _ _ _ _ => (pd_name 7))) (fun σ H q => by obtain ⟨rfl, rfl⟩ := q; exact q1.lc) (fun σ H v H' q e dv => ?_)) ?_
  · obtain ⟨rfl, rfl⟩ := q
    have y := q1.up e
    obtain ⟨q', vs, Li, nq⟩ := y.li
    exact ⟨y.ex, y.lc.set 6 dv, q', vs, Li.set (by decide), nq⟩
  have refused : ∀ o6, ousts h r sold f = none → PSs (cxOf CX0 P w K mg base N_law_step "_law_step" (defScope (top 85)) (He.ga K "_law_step") cdv A outer sh H E).nox [] (tH (SI w K H0 h r sold paid f sold o6) (SI w K H0 h r sold paid f sold o6) (fun v H' => Ex H0 H' ∧ Dp K H' v (step h r sold paid f).enc)) := fun _ _ => hs_nil
  generalize hL : ((List.range f).filter fun k => decide (0 < sold.getD k 0)) = less at hless ⊢
  cases r with
  | plain w' l =>
    refine hs_cons (M := SI w K H0 h (.plain w' l) sold paid f sold (some (.list (less.map fun k => .int (k : Nat))))) (hs_if (k := false) (ds := sds h (.plain w' l) sold paid f (some (.list (sold.map .int))) (some (.list (less.map fun k => .int (k : Nat))))) (by cases w' <;> exact (pt_eq (w_t (wt_and (k' := true) (pt_eqS (pd_ix (pd_name 1) pd_int rfl) pd_str) (fun hb => nomatch hb))) rfl)) (fun σ H q => q.lc) (fun σ H H' q e => q.up e) (fun z => nomatch z) (fun _ => hs_nil)) ?_
    exact hs_one (hs_ret (ds := sds h (.plain w' l) sold paid f (some (.list (sold.map .int))) (some (.list (less.map fun k => .int (k : Nat))))) (d := (step h (.plain w' l) sold paid f).enc) (pd_eq (pd_tup (ad_cons (pd_name 2) (ad_cons (pd_name 3) (ad_cons pd_str ad_nil))) (by exact lle rfl)) (by rw [step_not hk, stepB_none rfl]; rfl)) (fun σ H q => q.lc) (fun σ H v H' q e dv => ⟨q.ex.trans e, dv⟩))
  | two b r1 r2 =>
    refine hs_cons (M := SI w K H0 h (.two b r1 r2) sold paid f sold (some (.list (less.map fun k => .int (k : Nat))))) (hs_if (k := false) (ds := sds h (.two b r1 r2) sold paid f (some (.list (sold.map .int))) (some (.list (less.map fun k => .int (k : Nat))))) (by cases b <;> exact (pt_eq (w_t (wt_and (k' := true) (pt_eqS (pd_ix (pd_name 1) pd_int rfl) pd_str) (fun hb => nomatch hb))) rfl)) (fun σ H q => q.lc) (fun σ H H' q e => q.up e) (fun z => nomatch z) (fun _ => hs_nil)) ?_
    exact hs_one (hs_ret (ds := sds h (.two b r1 r2) sold paid f (some (.list (sold.map .int))) (some (.list (less.map fun k => .int (k : Nat))))) (d := (step h (.two b r1 r2) sold paid f).enc) (pd_eq (pd_tup (ad_cons (pd_name 2) (ad_cons (pd_name 3) (ad_cons pd_str ad_nil))) (by exact lle rfl)) (by rw [step_not hk, stepB_none rfl]; rfl)) (fun σ H q => q.lc) (fun σ H v H' q e dv => ⟨q.ex.trans e, dv⟩))
  | oust r1 fee =>
    cases less with
    | nil =>
      have hno : ousts h (.oust r1 fee) sold f = none := by
        unfold ousts
        simp only [List.head?_nil] at hless
        cases q : cheap sold with
        | none => rfl
        | some i =>
          rw [q] at hless
          simp only at hless ⊢
          refine if_neg fun z => ?_
          rw [if_pos z.1] at hless
          cases hless
      refine hs_cons (M := SI w K H0 h (.oust r1 fee) sold paid f sold (some (.list []))) (hs_if (k := false) (ds := sds h (.oust r1 fee) sold paid f (some (.list (sold.map .int))) (some (.list []))) (pt_eq (w_t (wt_and (pt_eqS (pd_ix (pd_name 1) pd_int rfl) pd_str) (fun _ => wt_and (k' := true) (pt_neD hr.units (pd_name 6) (pd_lst ad_nil (by exact lle rfl)) sh_nilL sh_nilL) (fun hb => nomatch hb)))) rfl) (fun σ H q => q.lc) (fun σ H H' q e => q.up e) (fun z => nomatch z) (fun _ => hs_nil)) ?_
      exact hs_one (hs_ret (ds := sds h (.oust r1 fee) sold paid f (some (.list (sold.map .int))) (some (.list []))) (d := (step h (.oust r1 fee) sold paid f).enc) (pd_eq (pd_tup (ad_cons (pd_name 2) (ad_cons (pd_name 3) (ad_cons pd_str ad_nil))) (by exact lle rfl)) (by rw [step_not hk, stepB_none hno]; rfl)) (fun σ H q => q.lc) (fun σ H v H' q e dv => ⟨q.ex.trans e, dv⟩))
    | cons i rest =>
      have hch : cheap sold = some i ∧ i < f := by
        simp only [List.head?_cons] at hless
        cases q : cheap sold with
        | none => rw [q] at hless; cases hless
        | some j =>
          rw [q] at hless
          simp only at hless
          split at hless
          · cases hless
            exact ⟨rfl, by assumption⟩
          · cases hless
      obtain ⟨hc, hif⟩ := hch
      refine hs_cons (M := fun σ H => decide (h.fares.getD i 0 + fee < h.fares.getD f 0) = false ∧ SI w K H0 h (.oust r1 fee) sold paid f sold (some (.list ((i :: rest).map fun k => .int (k : Nat)))) σ H) (hs_if (k := decide (h.fares.getD i 0 + fee < h.fares.getD f 0)) (ds := sds h (.oust r1 fee) sold paid f (some (.list (sold.map .int))) (some (.list ((i :: rest).map fun k => .int (k : Nat)))))
        (pt_eq (w_t (wt_and (pt_eqS (pd_ix (pd_name 1) pd_int rfl) pd_str) (fun _ => wt_and (pt_neD hr.units (pd_name 6) (pd_lst ad_nil (by exact lle rfl)) ((shp_mapL (n := 0) fun _ _ => shp_int _).ok (by decide)) sh_nilL) (fun _ => wt_and1 (pt_gt (pd_ix (pd_ix (pd_name 0) pd_int rfl) (pd_name 4) (atI_ints h.fares f hf)) (pd_add (pd_ix (pd_ix (pd_name 0) pd_int rfl) (pd_ixL (d := .int (i : Nat)) (pd_name 6) pd_int (atI_head _ _)) (atI_ints h.fares i (by omega))) (pd_ix (pd_name 1) pd_int rfl))))))) (by
          show (PyData.eqv (.str "oust") (.str "oust") && (!PyData.eqv (.list _) (.list []) && _)) = _
          rw [eqv_nilL, eqv_str]
          simp)) (fun σ H q => q.lc) (fun σ H H' q e => q.up e) (fun hk2 => ?_) (fun hk2 => hs_conseq hs_nil (fun σ H q => q) (fun σ H q => ⟨hk2, q⟩))) ?_
      · have hyes : ousts h (.oust r1 fee) sold f = some (i, fee) := by
          have := of_decide_eq_true hk2
          unfold ousts
          rw [hc]
          exact if_pos ⟨hif, by omega⟩
        refine hs_cons (M := SI w K H0 h (.oust r1 fee) sold paid f (bump sold i (-1)) none) (hp_setL (d := .int (sold.getD i 0 - 1)) (ds := sds h (.oust r1 fee) sold paid f (some (.list (sold.map .int))) (some (.list ((i :: rest).map fun k => .int (k : Nat))))) (k := i) 5 (pd_ixL (d := .int (i : Nat)) (pd_name 6) pd_int (atI_head _ _)) (pd_sub (pd_ixL (pd_name 5) (pd_ixL (d := .int (i : Nat)) (pd_name 6) pd_int (atI_head _ _)) (atI_ints sold i (by omega))) pd_int) (fun σ H q => q.lc) (fun σ H q => ?_)) ?_
        · obtain ⟨q', vs, Li, nq⟩ := q.li
          exact ⟨q', vs, Li.slot, Li.here, by rw [dpa_len Li.data, List.length_map]; omega, fun v H1 e dv => q.put Li nq e dv⟩
        refine hs_cons (M := SI w K H0 h (.oust r1 fee) sold paid f (bump (bump sold i (-1)) f 1) none) (hp_setL (d := .int ((bump sold i (-1)).getD f 0 + 1)) (ds := sds h (.oust r1 fee) sold paid f (some (.list ((bump sold i (-1)).map .int))) none) (k := f) 5 (pd_name 4) (pd_add (pd_ixL (pd_name 5) (pd_name 4) (atI_ints _ f (by rw [hbl]; omega))) pd_int) (fun σ H q => q.lc) (fun σ H q => ?_)) ?_
        · obtain ⟨q', vs, Li, nq⟩ := q.li
          exact ⟨q', vs, Li.slot, Li.here, by rw [dpa_len Li.data, List.length_map, hbl]; omega, fun v H1 e dv => q.put Li nq e dv⟩
        exact hs_one (hs_ret (ds := sds h (.oust r1 fee) sold paid f (some (.list ((bump (bump sold i (-1)) f 1).map .int))) none) (d := (step h (.oust r1 fee) sold paid f).enc) (pd_eq (pd_tup (ad_cons (pd_tuple T.f_tuple (pd_name 5) (.inl rfl)) (ad_cons (pd_add (pd_name 3) (pd_ix (pd_name 1) pd_int rfl)) (ad_cons pd_str ad_nil))) (by exact lle rfl)) (by rw [step_not hk, stepB_some hyes])) (fun σ H q => q.lc) (fun σ H v H' q e dv => ⟨q.ex.trans e, dv⟩))
      · refine hs_pre fun σ2 H2 q2 => ?_
        obtain ⟨hk2, q2⟩ := q2
        have hno : ousts h (.oust r1 fee) sold f = none := by
          have := of_decide_eq_false hk2
          unfold ousts
          rw [hc]
          exact if_neg fun z => this (by omega)
        exact hs_one (hs_ret (ds := sds h (.oust r1 fee) sold paid f (some (.list (sold.map .int))) (some (.list ((i :: rest).map fun k => .int (k : Nat))))) (d := (step h (.oust r1 fee) sold paid f).enc) (pd_eq (pd_tup (ad_cons (pd_name 2) (ad_cons (pd_name 3) (ad_cons pd_str ad_nil))) (by exact lle rfl)) (by rw [step_not hk, stepB_none hno]; rfl)) (fun σ H q => by obtain ⟨rfl, rfl⟩ := q; exact q2.lc) (fun σ H v H' q e dv => by obtain ⟨rfl, rfl⟩ := q; exact ⟨q2.ex.trans e, dv⟩))
abbrev N_law_sum : List Str := ["_law_yard_here", "_law_many", "_law_k"]
theorem sc_law_sum : FnScope N_law_sum ["_law_yard_here", "_law_many"] (defScope (top 86)) := ⟨rfl, rfl, rfl, by decide +kernel, rfl, by decide +kernel, by decide +kernel⟩
def R_law_sum : List PyData → PyData → Prop := fun dl d => ∃ (h : Hall) (c : List Int), h.Ok ∧ c.length = h.fares.length ∧ dl = [h.enc, encL c] ∧ d = .int (worth h c)
theorem ok_law_sum (T : Fx K mg) : OkF P w K mg base 1 "_law_sum" ["_law_yard_here", "_law_many"] (spD K 2 R_law_sum) := by
  refine mk_ok T 49 rfl sc_law_sum rfl (fun _ _ _ _ _ _ us hl => match us, hl with | [_, _], _ => rfl) fun cdv A outer sh H E hr dl d hR _ => ?_
  obtain ⟨h, c, ho, hl, rfl, rfl⟩ := hR
  have h4 := ho.n4
  refine
    (sr_ret (pd_eq (pd_sum rfl T.f_sum (pd_lc1I 2 (List.range c.length) (fun k => .int (k : Nat)) rfl sc_law_sum.nd (wd_eq (wd_range1 T.f_range (pd_len T.f_len (pd_name 1)) ?_) ?_) (blkOk_by (N := N_law_sum) (sc := defScope (top 86)) (by decide +kernel)) (fun _ _ _ _ _ => pg_name sc_law_sum.nd rfl (.inl rfl)) ?_ (fun k => h.fares.getD k 0 * c.getD k 0) (fun a ha _ _ _ _ _ => (pd_mul (pd_ix (pd_ix (pd_name 0) pd_int rfl) (pd_name 2) (atI_ints h.fares a ?_)) (pd_ix (pd_name 1) (pd_name 2) (atI_ints c a (List.mem_range.mp ha))) ?_)))) (by rw [worth_range hl])))
  · rw [List.length_map]; omega
  · rw [List.length_map, rgD_nat0, List.map_map]; rfl
  · rw [List.length_range]; omega
  · have := List.mem_range.mp ha; omega
  · have h1 := List.mem_range.mp ha
    have h2 := ho.fr (h.fares.getD a 0) (by rw [List.getD_eq_getElem?_getD, List.getElem?_eq_getElem (by omega : a < h.fares.length)]; exact List.getElem_mem _)
    exact .inl ⟨by omega, by omega⟩
abbrev N_law_is_int : List Str := ["_law_thing", "_law_low", "_law_high"]
theorem sc_law_is_int : FnScope N_law_is_int ["_law_thing", "_law_low", "_law_high"] (defScope (top 87)) := ⟨rfl, rfl, rfl, by decide +kernel, rfl, by decide +kernel, by decide +kernel⟩
theorem ok_law_is_int (T : Fx K mg) : OkF P w K mg base 1 "_law_is_int" ["_law_thing", "_law_low", "_law_high"] (spD K 3 R_is_whole) := by
  refine mk_ok T 50 rfl sc_law_is_int rfl (fun _ _ _ _ _ _ us hl => match us, hl with | [_, _, _], _ => rfl) fun cdv A outer s H E hr dl d hR _ => ?_
  obtain ⟨value, least, most, rfl, rfl⟩ := hR
  exact
    (sr_ret (pd_and (k := true) (pd_is T.f_isinstance T.f_int bt_int (pd_name 0) ki_int_int) (fun hb => (pd_and (k := true) (pd_not (k := false) (pd_is T.f_isinstance T.f_bool bt_bool (pd_name 0) ki_int_bool)) (fun hb => (pd_one (pd_lele (pd_name 1) (pd_name 0) (pd_name 2))))))))
abbrev N_law_may : List Str := ["_law_yard_here", "_law_sort", "_law_last"]
theorem sc_law_may : FnScope N_law_may ["_law_yard_here", "_law_sort", "_law_last"] (defScope (top 88)) := ⟨rfl, rfl, rfl, by decide +kernel, rfl, by decide +kernel, by decide +kernel⟩
def RX_law_may (K : PySem.W.Frag) : List PyData → Out → Prop := fun dl O => ∃ (h : Hall) (rs : Bool) (p : Pr), h.fares.length ≤ 100 ∧ p.last ≤ 100 ∧ dl = [h.enc, .str (kindS rs), .int p.last] ∧ O = oN K ((mayOf h rs p).map .int)
theorem ok_law_may (T : Fx K mg) : OkF P w K mg base 1 "_law_may" ["_law_yard_here", "_law_sort", "_law_last"] (spX w K 3 (RX_law_may K)) := by
  refine mk_okX T 51 rfl sc_law_may rfl (fun _ _ _ _ _ _ us hl => match us, hl with | [_, _, _], _ => rfl) fun cdv A outer s H E hr dl O hR _ => ?_
  obtain ⟨h, rs, p, hn, hp, rfl, rfl⟩ := hR
  have hlo := low_ok (h := h) (rs := rs) hp
  rw [show mayOf h rs p = rgD (lowOf rs p) ((h.fares.map PyData.int).length : Int) from by rw [List.length_map]; rfl]
  exact so_retN
    (po_listRg (i := lowOf rs p) rfl T.f_list T.f_range (pd_if (pt_eq (pt_eqS (pd_name 1) pd_str) (kind_eqv rs)) (fun hb => (pd_eq (pd_max2 rfl T.f_max pd_int (pd_name 2)) (by rw [hb]; rfl))) (fun hb => pd_eq pd_int (by rw [hb]; rfl))) (pd_len T.f_len (pd_ix (pd_name 0) pd_int rfl)) (by rw [List.length_map]; exact RgOk.of_le (by omega) (by omega) (by omega) (by omega)))
abbrev N_law_both : List Str := ["_law_yard_here", "_law_two", "_law_sort", "_law_pair", "_law_one", "_law_near", "_law_mine", "_law_deed", "_law_far", "_law_yours", "_law_other_deed"]
theorem sc_law_both : FnScope N_law_both ["_law_yard_here", "_law_two", "_law_sort", "_law_pair", "_law_one"] (defScope (top 90)) := ⟨rfl, rfl, rfl, by decide +kernel, rfl, by decide +kernel, by decide +kernel⟩
theorem ok_law_both (T : Fx K mg) : OkF P w K mg base 7 "_law_both" ["_law_yard_here", "_law_two", "_law_sort", "_law_pair", "_law_one"] (spD K 5 R_behind_both) := by
  refine mk_ok T 53 rfl sc_law_both rfl (fun _ _ _ _ _ _ us hl => match us, hl with | [_, _, _, _, _], _ => rfl) fun cdv A outer s H E hr dl d hR _ => ?_
  obtain ⟨h, r, r2, rs, p, f, h1, h2, rfl, rfl⟩ := hR
  exact
    (sr_un3 5 6 7 rfl sc_law_both.nd (pd_fn (ok_law_step T) hr ⟨h, r, p.a, p.pa, f, h1, rfl, rfl⟩ (ad_cons (pd_name 0) (ad_cons (pd_ix (pd_name 1) pd_int rfl) (ad_cons (pd_ix (pd_name 3) pd_int rfl) (ad_cons (pd_ix (pd_name 3) pd_int rfl) (ad_cons (pd_name 4) ad_nil))))))
    (sr_un3 8 9 10 rfl sc_law_both.nd (pd_fn (ok_law_step T) hr ⟨h, r2, p.b, p.pb, f, h2, rfl, rfl⟩ (ad_cons (pd_name 0) (ad_cons (pd_ix (pd_name 1) pd_int rfl) (ad_cons (pd_ix (pd_name 3) pd_int rfl) (ad_cons (pd_ix (pd_name 3) pd_int rfl) (ad_cons (pd_name 4) ad_nil))))))
    (sr_ret (pd_tup (ad_cons (pd_name 5) (ad_cons (pd_name 6) (ad_cons (pd_name 8) (ad_cons (pd_name 9) (ad_cons (pd_if (d := .int (if rs then (f : Int) else -1)) (pt_eq (pt_eqS (pd_name 2) pd_str) (kind_eqv rs)) (fun hb => pd_eq (pd_name 4) (by rw [hb]; rfl)) (fun hb => (pd_eq (pd_neg pd_int) (by rw [hb]; rfl)))) ad_nil))))) (by exact lle rfl)))))
abbrev N_law_lead : List Str := ["_law_yard_here", "_law_pair"]
theorem sc_law_lead : FnScope N_law_lead ["_law_yard_here", "_law_pair"] (defScope (top 91)) := ⟨rfl, rfl, rfl, by decide +kernel, rfl, by decide +kernel, by decide +kernel⟩
def R_law_lead : List PyData → PyData → Prop := fun dl d => ∃ (h : Hall) (p : Pr), h.Ok ∧ p.a.length = h.fares.length ∧ p.b.length = h.fares.length ∧ dl = [h.enc, p.enc] ∧ d = .int (lead h p)
theorem ok_law_lead (T : Fx K mg) : OkF P w K mg base 2 "_law_lead" ["_law_yard_here", "_law_pair"] (spD K 2 R_law_lead) := by
  refine mk_ok T 54 rfl sc_law_lead rfl (fun _ _ _ _ _ _ us hl => match us, hl with | [_, _], _ => rfl) fun cdv A outer s H E hr dl d hR _ => ?_
  obtain ⟨h, p, ho, h1, h2, rfl, rfl⟩ := hR
  exact
    (sr_ret (pd_add (pd_sub (pd_sub (pd_fn (ok_law_sum T) hr ⟨h, p.a, ho, h1, rfl, rfl⟩ (ad_cons (pd_name 0) (ad_cons (pd_ix (pd_name 1) pd_int rfl) ad_nil))) (pd_ix (pd_name 1) pd_int rfl)) (pd_fn (ok_law_sum T) hr ⟨h, p.b, ho, h2, rfl, rfl⟩ (ad_cons (pd_name 0) (ad_cons (pd_ix (pd_name 1) pd_int rfl) ad_nil)))) (pd_ix (pd_name 1) pd_int rfl)))
end
end G33
set_option Elab.async false
set_option linter.all false
set_option maxRecDepth 100000
set_option maxHeartbeats 4000000
namespace G33
open PySem PySem.Spec PyProof.Rows L2
abbrev KvI (kv : List (Pr × Nat)) : List (Pr × PyData) := kv.map fun q => (q.1, .int (q.2 : Nat))
theorem kvI_pure (kv : List (Pr × Nat)) : pureKV (KvI kv) := fun q hq => by
  obtain ⟨x, _, rfl⟩ := List.mem_map.mp hq
  exact pure_int _
theorem kvI_in (kv : List (Pr × Nat)) (p : Pr) : inK (KvI kv) p = hasK kv p := by
  unfold inK hasK
  have := lookup_map (fun n : Nat => PyData.int n) p kv
  rw [show KvI kv = kv.map fun q => (q.1, (fun n : Nat => PyData.int n) q.2) from rfl, this]
  simp
theorem fold_len {α β : Type} {g : Bs α → β → Bs α} {c : Nat} : ∀ {l : List β}, (∀ st, ∀ a ∈ l, (g st a).1.length ≤ st.1.length + c) → ∀ st, (l.foldl g st).1.length ≤ st.1.length + c * l.length
  | [], _, st => by simp
  | a :: l, h, st => by
    have h1 := h st a (by simp)
    have h2 := fold_len (l := l) (fun st b hb => h st b (by simp [hb])) (g st a)
    rw [List.foldl_cons, List.length_cons, Nat.mul_succ]
    omega
theorem vis1_len {α : Type} {nxt : Pr → Int → Pr} {val : List (Pr × α) → Pr → Int → α} (p : Pr) (st : Bs α) (f : Int) : (vis1 nxt val p st f).1.length ≤ st.1.length + 1 := by
  unfold vis1
  split
  · omega
  · simp
theorem visP_len {α : Type} {nxt : Pr → Int → Pr} {may : Pr → List Int} {val : List (Pr × α) → Pr → Int → α} (p : Pr) (st : Bs α) (h : (may p).length ≤ 4) : (visP nxt may val st p).1.length ≤ st.1.length + 4 := by
  have := fold_len (g := vis1 nxt val p) (c := 1) (l := may p) (fun st a _ => vis1_len p st a) st
  unfold visP
  omega
abbrev dval : Nat → List (Pr × Nat) → Pr → Int → Nat := fun k _ _ _ => k
abbrev dst (h : Hall) (r s : Ru) (rs : Bool) : Nat → Bs Nat := bfs (behind h r s rs) (mayOf h rs) dval ([(first h, 0)], [first h])
theorem dst_all {h : Hall} {r s : Ru} {rs : Bool} (ho : h.Ok) (k : Nat) : AllK (StG h rs) (dst h r s rs k) ∧ LayIn (dst h r s rs k) :=
  ⟨bfs_good (fun p f g hf => stG_next ho g hf) ⟨fun p hp => by simp at hp; subst hp; exact stG_first h rs, fun p hp => by simp at hp; subst hp; exact stG_first h rs⟩ k,
    bfs_in (fun p hp => by simp at hp; subst hp; simp [hasK]) k⟩
theorem dst_len {h : Hall} {r s : Ru} {rs : Bool} (k : Nat) : (dst h r s rs (k + 1)).1.length = (dst h r s rs k).1.length + (dst h r s rs (k + 1)).2.length :=
  fold_keep (fun z : Bs Nat => z.1.length = (dst h r s rs k).1.length + z.2.length) (fun z p _ hz => fold_keep (fun z : Bs Nat => z.1.length = (dst h r s rs k).1.length + z.2.length) (fun z f _ hz => vis1_count hz) z hz) _ (by simp)
theorem dst_lay {h : Hall} {r s : Ru} {rs : Bool} : ∀ k, (dst h r s rs k).2.length ≤ (dst h r s rs k).1.length
  | 0 => Nat.le_refl 1
  | k + 1 => by rw [dst_len]; omega
def dMs (h : Hall) (r s : Ru) (rs : Bool) (most k : Nat) : Nat := 2 * (most + 1 - (dst h r s rs k).1.length) + if (dst h r s rs k).2 = [] then 0 else 1
theorem dMs_lt {h : Hall} {r s : Ru} {rs : Bool} {most k : Nat} (hk : (dst h r s rs k).2 ≠ []) (hl : (dst h r s rs (k + 1)).1.length ≤ most) : dMs h r s rs most (k + 1) < dMs h r s rs most k := by
  have h1 := dst_len (h := h) (r := r) (s := s) (rs := rs) k
  unfold dMs
  rw [if_neg hk]
  by_cases e : (dst h r s rs (k + 1)).2 = []
  · rw [if_pos e]
    rw [e] at h1
    simp only [List.length_nil] at h1
    omega
  · rw [if_neg e]
    have := List.length_pos_iff.mpr e
    omega
section
variable {P : Program} {w : World} {K : PySem.W.Frag} {mg : Str → Option Value} {base : Heap}
abbrev N_law_depths : List Str := ["_law_yard_here", "_law_two", "_law_sort", "_law_most", "_law_none", "_law_found", "_law_layer", "_law_depth", "_law_fresh", "_law_pair", "_law_one", "_law_later"]
theorem sc_law_depths : FnScope N_law_depths ["_law_yard_here", "_law_two", "_law_sort", "_law_most"] (defScope (top 92)) := ⟨rfl, rfl, rfl, by decide +kernel, rfl, by decide +kernel, by decide +kernel⟩
def oDep (w : World) (K : PySem.W.Frag) (h : Hall) (r s : Ru) (rs : Bool) (most : Nat) : Out := fun H v H' => Ex H H' ∧ (v = .non ∨ ∃ n, (dst h r s rs n).2 = [] ∧ (dst h r s rs n).1.length ≤ most ∧ HoldsD w K H' v (dictD (KvI (dst h r s rs n).1)))
def RX_law_depths (w : World) (K : PySem.W.Frag) : List PyData → Out → Prop := fun dl O => ∃ (h : Hall) (r s : Ru) (rs : Bool) (most : Nat), h.Ok ∧ RuOk h r ∧ RuOk h s ∧ 1 ≤ most ∧ most ≤ 1000 ∧ dl = [h.enc, encTwo r s, .str (kindS rs), .int (most : Nat)] ∧ O = oDep w K h r s rs most
def dds (h : Hall) (r s : Ru) (rs : Bool) (most : Nat) (kv : List (Pr × Nat)) (o6 : Option PyData) (dep : Nat) (o9 o10 o11 : Option PyData) : Ds := [some h.enc, some (encTwo r s), some (.str (kindS rs)), some (.int (most : Nat)), some (encL (none0 h)), some (dictD (KvI kv)), o6, some (.int (dep : Nat)), none, o9, o10, o11]
structure DI (w : World) (K : PySem.W.Frag) (H0 : Hp) (h : Hall) (r s : Ru) (rs : Bool) (most dep : Nat) (v : V) (layer : List Pr) (o9 o10 o11 : Option PyData) (st : Bs Nat) (σ : L2.St) (H : Hp) : Prop where
  ex : Ex H0 H
  lc : Lc w K H σ (dds h r s rs most st.1 none dep o9 o10 o11)
  lay : Dp K H v (.list (layer.map Pr.enc))
  new5 : ∃ a, σ[5]? = some (some (.ref a)) ∧ H0 a = none
  li : ∃ q vs, LiA K H σ 8 q vs (st.2.map Pr.enc) ∧ v ≠ .ref q ∧ H0 q = none
section
variable {H0 H H' : Hp} {h : Hall} {r s : Ru} {rs : Bool} {most dep : Nat} {v : V} {layer : List Pr} {o9 o10 o11 : Option PyData} {st : Bs Nat} {σ : L2.St}
theorem DI.up (x : DI w K H0 h r s rs most dep v layer o9 o10 o11 st σ H) (e : Ex H H') : DI w K H0 h r s rs most dep v layer o9 o10 o11 st σ H' :=
  ⟨x.ex.trans e, x.lc.up e, x.lay.up e, x.new5, let ⟨q, vs, a, b, c⟩ := x.li; ⟨q, vs, a.up e, b, c⟩⟩
theorem DI.set {t : Nat} {u : V} {d : PyData} {o9' o10' o11' : Option PyData} (x : DI w K H0 h r s rs most dep v layer o9 o10 o11 st σ H) (ht : 8 < t) (hd : Dp K H u d) (e : (dds h r s rs most st.1 none dep o9 o10 o11).set t (some d) = dds h r s rs most st.1 none dep o9' o10' o11') : DI w K H0 h r s rs most dep v layer o9' o10' o11' st (σ.set t (some u)) H :=
  ⟨x.ex, by rw [← e]; exact x.lc.set t hd, x.lay, let ⟨a, b, c⟩ := x.new5; ⟨a, set_ne (by omega) b, c⟩, let ⟨q, vs, a, b, c⟩ := x.li; ⟨q, vs, ⟨set_ne (by omega) a.slot, a.here, a.data⟩, b, c⟩⟩
theorem DI.sub {o9' o10' o11' : Option PyData} (x : DI w K H0 h r s rs most dep v layer o9 o10 o11 st σ H) (e : SubD (dds h r s rs most st.1 none dep o9' o10' o11') (dds h r s rs most st.1 none dep o9 o10 o11)) : DI w K H0 h r s rs most dep v layer o9' o10' o11' st σ H :=
  ⟨x.ex, e.lc x.lc, x.lay, x.new5, x.li⟩
theorem dds_pu (h9 : ∀ d, o9 = some d → pure d = true) (h10 : ∀ d, o10 = some d → pure d = true) (h11 : ∀ d, o11 = some d → pure d = true) {kv : List (Pr × Nat)} : PuD (dds h r s rs most kv none dep o9 o10 o11) := by
  have one : ∀ {o : Option PyData} {ds : Ds}, (∀ d, o = some d → pure d = true) → PuD ds → PuD (o :: ds) := fun {o ds} ho hd => by
    cases o with
    | none => exact .n hd
    | some d => exact .p (ho d rfl) hd
  exact .p (pure_hall h) (.p (pure_two r s) (.p (pure_str _) (.p (pure_int _) (.p (pure_encL _) (.t (kvI_pure kv) (.n (.p (pure_int _) (.n (one h9 (one h10 (one h11 .nil)))))))))))
end
theorem ints_ne8 {H : Hp} {v : V} {fs : List Int} {q : Addr} {σ : L2.St} {vs : List V} {ps : List Pr} (h : ∃ p ws, v = .ref p ∧ H p = some (.lst ws) ∧ DpAll K H ws (fs.map .int)) (hf : fs ≠ []) (L : LiA K H σ 8 q vs (ps.map Pr.enc)) : v ≠ .ref q :=
  ints_ne (σ := (List.replicate 7 none).set 6 (some (.ref q))) h hf ⟨rfl, L.here, L.data⟩
/-- between the rounds -/
structure ID (w : World) (K : PySem.W.Frag) (H0 : Hp) (h : Hall) (r s : Ru) (rs : Bool) (most k : Nat) (σ : L2.St) (H : Hp) : Prop where
  ex : Ex H0 H
  lc : Lc w K H σ (dds h r s rs most (dst h r s rs k).1 (some (.list ((dst h r s rs k).2.map Pr.enc))) k none none none)
  new5 : ∃ a, σ[5]? = some (some (.ref a)) ∧ H0 a = none
  li : ∃ l vs, LiA K H σ 6 l vs ((dst h r s rs k).2.map Pr.enc)
  few : (dst h r s rs k).1.length ≤ most
theorem ID.up {H0 H H' : Hp} {h : Hall} {r s : Ru} {rs : Bool} {most k : Nat} {σ : L2.St} (x : ID w K H0 h r s rs most k σ H) (e : Ex H H') : ID w K H0 h r s rs most k σ H' := ⟨x.ex.trans e, x.lc.up e, x.new5, let ⟨l, vs, a⟩ := x.li; ⟨l, vs, a.up e⟩, x.few⟩
theorem ok_law_depths (T : Fx K mg) : OkF P w K mg base 8 "_law_depths" ["_law_yard_here", "_law_two", "_law_sort", "_law_most"] (spX w K 4 (RX_law_depths w K)) := by
  refine mk_okX T 55 rfl sc_law_depths rfl (fun _ _ _ _ _ _ us hl => match us, hl with | [_, _, _, _], _ => rfl) fun cdv A outer sh H E hr dl O hR _ => ?_
  obtain ⟨h, r, s, rs, most, ho, hro, hso, hm1, hm2, rfl, rfl⟩ := hR
  have hn1 := ho.n1
  have hn4 := ho.n4
  refine so_h fun σ0 H0 L0 => ?_
  refine hs_cons (M := fun σ H => Ex H0 H ∧ Lc w K H σ ((startD 12 [h.enc, encTwo r s, .str (kindS rs), .int (most : Nat)]).set 4 (some (encL (none0 h))))) (hs_asg (ds := startD 12 [h.enc, encTwo r s, .str (kindS rs), .int (most : Nat)]) 4 sc_law_depths.nd (pd_eq (pd_repN (pd_tup (ad_cons pd_int ad_nil) (by exact lle rfl)) (pd_len T.f_len (pd_ix (pd_name 0) pd_int rfl)) (by rw [List.length_map]; omega) (by rw [List.length_map]; omega)) (none_eq h)) (fun σ H q => by obtain ⟨rfl, rfl⟩ := q; exact L0) (fun σ H v H' q e dv => by obtain ⟨rfl, rfl⟩ := q; exact ⟨e, (L0.up e).set 4 dv⟩)) ?_
  refine hs_cons (M := ID w K H0 h r s rs most 0) (ps_imp (ps_par3 (i := 5) (j := 6) (l := 7) rfl sc_law_depths.nd rfl rfl rfl (by decide) (by decide) (by decide) rfl rfl rfl
    (pa_cons (po_disp1 (ds := (startD 12 [h.enc, encTwo r s, .str (kindS rs), .int (most : Nat)]).set 4 (some (encL (none0 h)))) (p := first h) (d := .int 0) hr.units (pd_tup (ad_cons (pd_name 4) (ad_cons pd_int (ad_cons (pd_name 4) (ad_cons pd_int (ad_cons (pd_neg pd_int) ad_nil))))) (by exact lle rfl)) pd_int rfl)
    (pa_cons (po_lst (dl := [(first h).enc]) (ds := (startD 12 [h.enc, encTwo r s, .str (kindS rs), .int (most : Nat)]).set 4 (some (encL (none0 h)))) (ad_cons (pd_tup (ad_cons (pd_name 4) (ad_cons pd_int (ad_cons (pd_name 4) (ad_cons pd_int (ad_cons (pd_neg pd_int) ad_nil))))) (by exact lle rfl)) ad_nil) (by exact lle rfl)) (pa_cons pe_int pa_nil))) rfl rfl) fun D σ H q => ?_) ?_
  · obtain ⟨⟨e0, L⟩, hN, _⟩ := q
    refine ⟨L, fun H1 v1 H2 e1 o1 => ⟨L.up (e1.trans o1.1), fun H3 v2 H4 e3 o2 => ⟨v1, v2, .int 0, rfl, hN _ _ ?_⟩⟩⟩
    obtain ⟨x1, a, rfl, na, T1⟩ := o1
    obtain ⟨x2, q, vs, rfl, nq, hq, dq⟩ := o2
    have ee := ((e1.trans x1).trans e3).trans x2
    refine ⟨e0.trans ee, ?_, ⟨a, set_ne (by decide) (set_ne (by decide) (set_eq (by rw [L.1]; exact lle rfl))), ex_none (e0.trans e1) na⟩, ⟨q, vs, ⟨set_ne (by decide) (set_eq (by rw [List.length_set, L.1]; exact lle rfl)), hq, dq⟩⟩, hm1⟩
    exact (((L.up ee).setH 5 (.inr ⟨[(first h, .int 0)], a, rfl, rfl, (T1.up e3).up x2⟩)).set 6 (.lst (.inl (.inl hq)) dq)).set 7 (.int 0)
  refine hs_cons (M := fun σ H => ∃ n, (dst h r s rs n).2 = [] ∧ ID w K H0 h r s rs most n σ H) ?_ ?_
  · refine hp_while (ID w K H0 h r s rs most) (dMs h r s rs most) (fun k => !(dst h r s rs k).2.isEmpty) (fun k => dds h r s rs most (dst h r s rs k).1 (some (.list ((dst h r s rs k).2.map Pr.enc))) k none none none) nox_xe (fun σ H q => ⟨0, q⟩) (fun k σ H q => q.lc) (fun k σ H H' q e => q.up e) (fun k _ => ?_) (fun k hk => ?_) (fun k σ H hk q => ⟨k, by simpa using hk, q⟩)
    · refine pt_eq (pt_neD hr.units (pd_name 6) (pd_lst ad_nil (by exact lle rfl)) ((shp_mapL (n := 2) fun p _ => shp_pr p).ok (by decide)) sh_nilL) ?_
      show (!PyData.eqv (.list _) (.list [])) = _
      rw [eqv_nilL, List.isEmpty_map]
    · refine hs_pre fun σ1 H1 q1 => ?_
      obtain ⟨l, ws, Ll⟩ := q1.li
      have hkne : (dst h r s rs k).2 ≠ [] := by
        intro z
        rw [z] at hk
        cases hk
      have hfew := q1.few
      have hall := dst_all (r := r) (s := s) (rs := rs) ho k
      -- the sizes within a round
      have h5 : ∀ p ∈ (dst h r s rs k).2, (mayOf h rs p).length ≤ 4 := fun p _ => by rw [mayOf, List.length_map, List.length_range]; have : 0 ≤ lowOf rs p := by { unfold lowOf; split <;> omega }; omega
      refine hs_cons (M := fun σ H => σ[6]? = some (some (.ref l)) ∧ DI w K H0 h r s rs most (k + 1) (.ref l) (dst h r s rs k).2 none none none ((dst h r s rs k).1, []) σ H)
        (ps_imp (ps_par (i := 8) (j := 7) rfl sc_law_depths.nd rfl rfl (by decide) rfl rfl (pa_cons (po_lst (ds := dds h r s rs most (dst h r s rs k).1 (some (.list ((dst h r s rs k).2.map Pr.enc))) k none none none) ad_nil (by exact lle rfl)) (pa_cons (pd_add (ds := dds h r s rs most (dst h r s rs k).1 (some (.list ((dst h r s rs k).2.map Pr.enc))) k none none none) (pd_name 7) pd_int) pa_nil)) rfl rfl) fun D σ H q => ?_) ?_
      · obtain ⟨⟨rfl, rfl⟩, hN, _⟩ := q
        refine ⟨q1.lc, fun H2 v H3 e o => ⟨q1.lc.up (e.trans o.1), fun u H4 e4 d4 => ⟨v, u, rfl, hN _ _ ?_⟩⟩⟩
        obtain ⟨x, q, vs, rfl, nq, hq, dq⟩ := o
        have ee := (e.trans x).trans e4
        refine ⟨set_ne (by decide) (set_ne (by decide) Ll.slot), q1.ex.trans ee, ?_, (Ll.up ee).dp, let ⟨a, b, c⟩ := q1.new5; ⟨a, set_ne (by decide) (set_ne (by decide) b), c⟩, q, vs, ⟨set_ne (by decide) (set_eq (by rw [q1.lc.1]; exact lle rfl)), e4 _ _ hq, dq.up e4⟩, ?_, ex_none (q1.ex.trans e) nq⟩
        · exact SubD.lc (.same (.same (.same (.same (.same (.same (.skip (.same (.same (.same (.same (.same .nil)))))))))))) (((q1.lc.up ee).un 8 _).set 7 d4)
        · rintro z
          cases z
          rw [(Ll.up e).here] at nq
          cases nq
      refine hs_cons (M := DI w K H0 h r s rs most (k + 1) (.ref l) (dst h r s rs k).2 none none none (dst h r s rs (k + 1))) ?_ ?_
      · refine hp_forG (items := (dst h r s rs k).2) (en := Pr.enc) 9 (fun v i σ H => v = .ref l ∧ DI w K H0 h r s rs most (k + 1) (.ref l) (dst h r s rs k).2 none none none (((dst h r s rs k).2.take i).foldl (visP (behind h r s rs) (mayOf h rs) (dval (k + 1))) ((dst h r s rs k).1, [])) σ H)
          (fun v i p σ H => v = .ref l ∧ DI w K H0 h r s rs most (k + 1) (.ref l) (dst h r s rs k).2 (some p.enc) none none (((dst h r s rs k).2.take i).foldl (visP (behind h r s rs) (mayOf h rs) (dval (k + 1))) ((dst h r s rs k).1, [])) σ H)
          nox_xe rfl sc_law_depths.nd (pi_list (pe_var (i := 6) rfl (Or.inl rfl) (by decide) (by decide))) (fun σ H R' q c => ?_) (fun v σ H q => ?_) (fun v i p σ H u H2 hi q e du => ⟨q.1, (q.2.up e).set (by decide) du rfl⟩) (fun v i p hi => ?_)
        · have hd := q.2.lay
          refine ⟨_, q.1, l, rfl, ?_, c _ (.ref l) H (fun i σ1 H1 hI => walks_list hI.2.lay) ⟨rfl, by simpa using q.2⟩⟩
          cases hd with
          | lst hs _ => exact ⟨_, hs⟩
        · have := q.2
          rw [List.take_length] at this
          exact this
        · -- one state
          refine hs_pre fun σ2 H2 q2 => ?_
          obtain ⟨rfl, q2⟩ := q2
          have hmem : p ∈ (dst h r s rs k).2 := List.mem_of_getElem? hi
          have hil : i < (dst h r s rs k).2.length := (List.getElem?_eq_some_iff.mp hi).1
          have gp : StG h rs p := hall.1.2 p hmem
          generalize est : ((dst h r s rs k).2.take i).foldl (visP (behind h r s rs) (mayOf h rs) (dval (k + 1))) ((dst h r s rs k).1, []) = st at q2
          have hlay := dst_lay (h := h) (r := r) (s := s) (rs := rs) k
          have lst0 : st.1.length ≤ most + 4 * most := by
            have := fold_len (g := visP (behind h r s rs) (mayOf h rs) (dval (k + 1))) (c := 4) (l := (dst h r s rs k).2.take i) (fun st a ha => visP_len a st (h5 a (List.mem_of_mem_take ha))) ((dst h r s rs k).1, [])
            rw [est, List.length_take] at this
            simp only at this
            omega
          have cst : st.1.length = (dst h r s rs k).1.length + st.2.length := est ▸ fold_keep (fun z : Bs Nat => z.1.length = (dst h r s rs k).1.length + z.2.length) (fun z p _ hz => fold_keep (fun z : Bs Nat => z.1.length = (dst h r s rs k).1.length + z.2.length) (fun z f _ hz => vis1_count hz) z hz) _ (by simp)
          refine hs_one (hp_conseq (hp_forO1 (O := oN K ((mayOf h rs p).map .int)) (d := .list ((mayOf h rs p).map .int)) (ds := dds h r s rs most st.1 none (k + 1) (some p.enc) none none) 10 (mayOf h rs p) .int
            (fun v2 j σ H => (DI w K H0 h r s rs most (k + 1) (.ref l) (dst h r s rs k).2 (some p.enc) none none (((mayOf h rs p).take j).foldl (vis1 (behind h r s rs) (dval (k + 1)) p) st) σ H) ∧ ∃ pp ws, v2 = .ref pp ∧ H pp = some (.lst ws) ∧ DpAll K H ws ((mayOf h rs p).map .int))
            (fun v2 j f σ H => (DI w K H0 h r s rs most (k + 1) (.ref l) (dst h r s rs k).2 (some p.enc) (some (.int f)) none (((mayOf h rs p).take j).foldl (vis1 (behind h r s rs) (dval (k + 1)) p) st) σ H) ∧ ∃ pp ws, v2 = .ref pp ∧ H pp = some (.lst ws) ∧ DpAll K H ws ((mayOf h rs p).map .int))
            nox_xe rfl sc_law_depths.nd (wv_listO (po_call (ok_law_may T) hr ⟨h, rs, p, Nat.le_trans hn4 (by decide), gp.2.2, rfl, rfl⟩ (ah_d (ad_cons (pd_name 0) (ad_cons (pd_name 2) (ad_cons (pd_ix (pd_name 9) pd_int rfl) ad_nil))))))
            (fun σ H q => by obtain ⟨rfl, rfl⟩ := q; exact q2.lc) (fun σ H H1 v H' q e o => ?_) (fun v2 j σ H q => ?_) (N := DI w K H0 h r s rs most (k + 1) (.ref l) (dst h r s rs k).2 (some p.enc) none none (visP (behind h r s rs) (mayOf h rs) (dval (k + 1)) st p)) (fun v2 σ H q => ?_)
            (fun v2 j f σ H u H2 hj q e du => ⟨(q.1.up e).set (by decide) du rfl, let ⟨pp, ws, a, b, c⟩ := q.2; ⟨pp, ws, a, e _ _ b, c.up e⟩⟩) (fun v2 j f hj => ?_)) (fun σ H q => q) (fun σ H q => ?_))
          · obtain ⟨rfl, rfl⟩ := q
            obtain ⟨e2, pp, ws, rfl, _, a, b⟩ := o
            exact ⟨by simpa using q2.up (e.trans e2), pp, ws, rfl, a, b⟩
          · obtain ⟨pp, ws, rfl, a, b⟩ := q.2
            exact .lst (.inl (.inl a)) b
          · have := q.1
            rw [List.take_length] at this
            exact this
          · -- one call
            refine hs_pre fun σ3 H3 q3 => ?_
            obtain ⟨q3, pp, ws, rfl, hpp, dpp⟩ := q3
            have fmem : f ∈ mayOf h rs p := List.mem_of_getElem? hj
            have fne : mayOf h rs p ≠ [] := List.ne_nil_of_mem fmem
            have h4 := h5 p hmem
            obtain ⟨fn, rfl, hfn⟩ := may_lt fmem
            generalize est2 : ((mayOf h rs p).take j).foldl (vis1 (behind h r s rs) (dval (k + 1)) p) st = st2 at q3
            have cst2 : st2.1.length = (dst h r s rs k).1.length + st2.2.length := est2 ▸ fold_keep (fun z : Bs Nat => z.1.length = (dst h r s rs k).1.length + z.2.length) (fun z f _ hz => vis1_count hz) _ cst
            have l2 : st2.1.length ≤ 10000 := by
              have := fold_len (g := vis1 (behind h r s rs) (dval (k + 1)) p) (c := 1) (l := (mayOf h rs p).take j) (fun st a _ => vis1_len p st a) st
              rw [est2, List.length_take] at this
              omega
            have hok := step_ok (rs := rs) ho gp hfn hro.ok hso.ok hro.deep hso.deep
            have enext : ((mayOf h rs p).take (j + 1)).foldl (vis1 (behind h r s rs) (dval (k + 1)) p) st = vis1 (behind h r s rs) (dval (k + 1)) p st2 fn := by rw [foldl_take _ _ hj, est2]
            refine hs_conseq (N := fun σ H => (DI w K H0 h r s rs most (k + 1) (.ref l) (dst h r s rs k).2 (some p.enc) (some (.int fn)) (some (behind h r s rs p fn).enc) (vis1 (behind h r s rs) (dval (k + 1)) p st2 fn) σ H) ∧ H pp = some (.lst ws) ∧ DpAll K H ws ((mayOf h rs p).map .int)) ?_ (fun σ H q => q) (fun σ H q => ?_)
            · refine hs_cons (M := fun σ H => (DI w K H0 h r s rs most (k + 1) (.ref l) (dst h r s rs k).2 (some p.enc) (some (.int fn)) (some (behind h r s rs p fn).enc) st2 σ H) ∧ H pp = some (.lst ws) ∧ DpAll K H ws ((mayOf h rs p).map .int))
                (hs_asg (ds := dds h r s rs most st2.1 none (k + 1) (some p.enc) (some (.int fn)) none) 11 sc_law_depths.nd (pd_fn (ok_law_both T) hr ⟨h, r, s, rs, p, fn, hok.1, hok.2, rfl, rfl⟩ (ad_cons (pd_name 0) (ad_cons (pd_name 1) (ad_cons (pd_name 2) (ad_cons (pd_name 9) (ad_cons (pd_name 10) ad_nil))))))
                  (fun σ H q => by obtain ⟨rfl, rfl⟩ := q; exact q3.lc) (fun σ H v H' q e dv => by obtain ⟨rfl, rfl⟩ := q; exact ⟨(q3.up e).set (by decide) dv rfl, e _ _ hpp, dpp.up e⟩)) ?_
              refine hs_one (hs_if (k := !hasK st2.1 (behind h r s rs p fn)) (ds := dds h r s rs most st2.1 none (k + 1) (some p.enc) (some (.int fn)) (some (behind h r s rs p fn).enc)) (pt_eq (pt_notInTab hr.units (pd_name 11) (ph_name 5)) (by rw [kvI_in])) (fun σ H q => q.1.lc) (fun σ H H' q e => ⟨q.1.up e, e _ _ q.2.1, q.2.2.up e⟩) (fun hk => ?_) (fun hk => ?_))
              · have hnew : hasK st2.1 (behind h r s rs p fn) = false := by simpa using hk
                have ev : vis1 (behind h r s rs) (dval (k + 1)) p st2 fn = (st2.1 ++ [(behind h r s rs p fn, k + 1)], st2.2 ++ [behind h r s rs p fn]) := by
                  unfold vis1
                  rw [hnew]
                  rfl
                have ekv : KvI (st2.1 ++ [(behind h r s rs p fn, k + 1)]) = KvI st2.1 ++ [(behind h r s rs p fn, .int ((k + 1 : Nat) : Int))] := by simp [KvI]
                refine hs_cons (M := fun σ H => (DI w K H0 h r s rs most (k + 1) (.ref l) (dst h r s rs k).2 (some p.enc) (some (.int fn)) (some (behind h r s rs p fn).enc) (st2.1 ++ [(behind h r s rs p fn, k + 1)], st2.2) σ H) ∧ H pp = some (.lst ws) ∧ DpAll K H ws ((mayOf h rs p).map .int))
                  (hp_put (ds := dds h r s rs most st2.1 none (k + 1) (some p.enc) (some (.int fn)) (some (behind h r s rs p fn).enc)) (kvs := KvI st2.1) (p := behind h r s rs p fn) (d := .int ((k + 1 : Nat) : Int)) 5 hr.units (pd_name 11) (pd_name 7)
                    rfl (by rw [kvI_in]; exact hnew) (pure_int _) (kvI_pure _) (by rw [List.length_map]; omega) (fun σ H q => q.1.lc) (fun σ H a H1 H2 q e es T ae T' => ?_)) (hs_one (hp_append (ds := dds h r s rs most (st2.1 ++ [(behind h r s rs p fn, k + 1)]) none (k + 1) (some p.enc) (some (.int fn)) (some (behind h r s rs p fn).enc)) 8 (pd_name 11) (fun σ H q => q.1.lc) (fun σ H q => ?_)))
                · obtain ⟨x, y, z⟩ := q
                  have x1 := x.up e
                  obtain ⟨a0, e4, n4⟩ := x1.new5
                  rw [es] at e4
                  cases e4
                  obtain ⟨q, vs, L, ne, nq⟩ := x1.li
                  obtain ⟨φ, hφ⟩ := ae.was
                  have qa : q ≠ a := by
                    rintro rfl
                    rw [L.here] at hφ
                    cases hφ
                  have y1 := e _ _ y
                  have pa : pp ≠ a := by
                    rintro rfl
                    rw [y1] at hφ
                    cases hφ
                  refine ⟨⟨ex_ext x1.ex ae n4, ?_, dp_ext ae _ x1.lay, ⟨a, es, n4⟩, q, vs, ⟨L.slot, (ae.but q qa).trans L.here, dpa_ext ae _ L.data⟩, ne, nq⟩, (ae.but pp pa).trans y1, dpa_ext ae _ (z.up e)⟩
                  have lp := Lc.put x1.lc ae es T' rfl
                  rw [← ekv] at lp
                  exact lp
                · obtain ⟨x, y, z⟩ := q
                  obtain ⟨q, vs, L, ne, nq⟩ := x.li
                  have hvl : vs.length = st2.2.length := by rw [dpa_len L.data, List.length_map]
                  refine ⟨q, vs, L.slot, L.here, by omega, fun v H1 e dv => ?_⟩
                  have x1 := x.up e
                  have L1 := L.up e
                  have al : AtLst q H1 (upd H1 q (.lst (vs ++ [v]))) := ⟨⟨_, L1.here⟩, fun b hb => upd_ne hb⟩
                  have y1 := e _ _ y
                  have z1 := z.up e
                  have pq : pp ≠ q := fun e' => ints_ne8 ⟨pp, ws, rfl, y1, z1⟩ fne L1 (by rw [e'])
                  rw [ev]
                  refine ⟨⟨Evl.Ex.mut x1.ex nq, x1.lc.lput al (dds_pu (fun d e => by cases e; exact pure_pr p) (fun d e => by cases e; exact pure_int _) (fun d e => by cases e; exact pure_pr _)), lst_other al (fun e' => ne (by rw [e'])) (pureAll_map fun a _ => pure_pr a) x1.lay, x1.new5, q, vs ++ [v], ⟨L1.slot, upd_same, ?_⟩, ne, nq⟩, (upd_ne pq).trans y1, dpa_upT al.exT _ (pureAll_map fun a _ => pure_int a) z1⟩
                  rw [List.map_append]
                  exact dpa_append (dpa_upT al.exT _ (pureAll_map fun a _ => pure_pr a) L1.data) (.cons (dv.upT (pure_pr _) al.exT) .nil)
              · have hold : hasK st2.1 (behind h r s rs p fn) = true := by simpa using hk
                have ev : vis1 (behind h r s rs) (dval (k + 1)) p st2 fn = st2 := by
                  unfold vis1
                  rw [if_pos hold]
                rw [ev]
                exact hs_nil
            · rw [enext]
              exact ⟨q.1.sub (.same (.same (.same (.same (.same (.same (.same (.same (.same (.same (.skip (.skip .nil)))))))))))), pp, ws, rfl, q.2.1, q.2.2⟩
          · rw [foldl_take _ _ hi, est]
            exact ⟨rfl, q.sub (.same (.same (.same (.same (.same (.same (.same (.same (.same (.skip (.same (.same .nil))))))))))))⟩
      · refine hs_cons (M := fun σ H => (dst h r s rs (k + 1)).1.length ≤ most ∧ DI w K H0 h r s rs most (k + 1) (.ref l) (dst h r s rs k).2 none none none (dst h r s rs (k + 1)) σ H) (hs_if (k := decide ((most : Int) < ((dst h r s rs (k + 1)).1.length : Nat))) (ds := dds h r s rs most (dst h r s rs (k + 1)).1 none (k + 1) none none none) (pt_eq (pt_gt (pd_lenTab T.f_len (ph_name 5)) (pd_name 3)) (by rw [List.length_map])) (fun σ H q => q.lc) (fun σ H H' q e => q.up e) (fun _ => ?_) (fun hk2 => hs_conseq hs_nil (fun σ H q => q) (fun σ H q => ⟨by have := of_decide_eq_false hk2; omega, q⟩))) ?_
        · exact hs_one (hs_ret (ds := dds h r s rs most (dst h r s rs (k + 1)).1 none (k + 1) none none none) pd_non (fun σ H q => q.lc) (fun σ H v H' q e dv => ⟨q.ex.trans e, by cases dv; exact .inl rfl⟩))
        refine hs_one (ps_imp (ps_set (i := 6) sc_law_depths.nd rfl (.inl rfl) (pe_var (i := 8) rfl (Or.inl rfl) (by decide) (by decide)) rfl (.inr rfl)) fun D σ H q => ?_)
        obtain ⟨⟨hle, x⟩, hN, _⟩ := q
        obtain ⟨q, vs, L, ne, nq⟩ := x.li
        refine ⟨_, L.slot, hN _ _ ⟨k + 1, dMs_lt hkne hle, x.ex, ?_, let ⟨a, b, c⟩ := x.new5; ⟨a, set_ne (by decide) b, c⟩, ⟨q, vs, ⟨set_eq (by rw [x.lc.1]; exact lle rfl), L.here, L.data⟩⟩, hle⟩⟩
        exact x.lc.set 6 L.dp
  · refine hs_ex fun n => hs_pre fun σ1 H1 q1 => ?_
    obtain ⟨hn, q1⟩ := q1
    refine hs_one (ps_imp (ps_ret (ph_name (ds := dds h r s rs most (dst h r s rs n).1 (some (.list ((dst h r s rs n).2.map Pr.enc))) n none none none) 5)) fun D σ H q => ?_)
    obtain ⟨⟨rfl, rfl⟩, _, hR⟩ := q
    exact ⟨q1.lc, fun v H' e hd => hR v H' ⟨q1.ex.trans e, .inr ⟨n, hn, q1.few, hd⟩⟩⟩
end
end G33
set_option Elab.async false
set_option linter.all false
set_option maxRecDepth 100000
set_option maxHeartbeats 4000000
namespace G33
open PySem PySem.Spec PyProof.Rows L2
theorem walks_tup {K : PySem.W.Frag} {a : Addr} {xs : List PyData} {H2 : Hp} (h2 : Dp K H2 (.ref a) (.tuple xs)) : Walks K (Itt K a) H2 xs := by
  cases h2 with
  | tup hs hd =>
    refine ⟨fun i x hx => ?_, _, hs, by rw [dpa_len hd]; exact Nat.le_refl _⟩
    obtain ⟨v, hv, dv⟩ := dpa_get hd hx
    refine ⟨⟨_, v, hs, hv⟩, fun u H3 y => ?_⟩
    obtain ⟨rfl, y⟩ := y
    have := y _ hs
    rw [hv] at this
    cases this
    exact ⟨Evl.Ex.refl _, dv⟩
/-- how a list or a tuple of ints in a slot is walked -/
def iRow (K : PySem.W.Frag) (i : Nat) : TI := fun σ H R => ∃ a xs, σ[i]? = some (some (.ref a)) ∧ ((Dp K H (.ref a) (.list xs) ∧ R (Itl K a) H) ∨ (Dp K H (.ref a) (.tuple xs) ∧ R (Itt K a) H))
section
variable {P : Program} {w : World} {K : PySem.W.Frag} {mg : Str → Option Value} {base : Heap}
abbrev N_law_leads_by : List Str := ["_law_yard_here", "_law_two", "_law_sort", "_law_row", "_law_none", "_law_pair", "_law_found", "_law_one"]
theorem sc_law_leads_by : FnScope N_law_leads_by ["_law_yard_here", "_law_two", "_law_sort", "_law_row"] (defScope (top 93)) := ⟨rfl, rfl, rfl, by decide +kernel, rfl, by decide +kernel, by decide +kernel⟩
abbrev rowD (t : Bool) (row : List Int) : PyData := if t then encL row else .list (row.map .int)
def RX_leads_by (K : PySem.W.Frag) : List PyData → Out → Prop := fun dl O => ∃ (h : Hall) (r s : Ru) (rs : Bool) (row : List Int) (t : Bool), h.Ok ∧ RuOk h r ∧ RuOk h s ∧ Calls h row ∧ row.length ≤ 20000 ∧ dl = [h.enc, encTwo r s, .str (kindS rs), rowD t row] ∧ O = oN K ((leadsBy h r s rs row).map .int)
def lbs (h : Hall) (r s : Ru) (rs : Bool) (p : Pr) (o7 : Option PyData) : Ds := [some h.enc, some (encTwo r s), some (.str (kindS rs)), none, some (encL (none0 h)), some p.enc, none, o7]
theorem lbs_pu {h : Hall} {r s : Ru} {rs : Bool} {p : Pr} {o7 : Option PyData} (h7 : ∀ d, o7 = some d → pure d = true) : PuD (lbs h r s rs p o7) := by
  refine .p (pure_hall h) (.p (pure_two r s) (.p (pure_str _) (.n (.p (pure_encL _) (.p (pure_pr p) (.n ?_))))))
  cases o7 with
  | none => exact .n .nil
  | some d => exact .p (h7 d rfl) .nil
structure LI (w : World) (K : PySem.W.Frag) (H0 : Hp) (h : Hall) (r s : Ru) (rs : Bool) (v3 : V) (p : Pr) (ls : List Int) (o7 : Option PyData) (σ : L2.St) (H : Hp) : Prop where
  ex : Ex H0 H
  lc : Lc w K H σ (lbs h r s rs p o7)
  row : σ[3]? = some (some v3)
  li : ∃ q vs, LiA K H σ 6 q vs (ls.map .int) ∧ H0 q = none
theorem LI.up {H0 H H' : Hp} {h : Hall} {r s : Ru} {rs : Bool} {v3 : V} {p : Pr} {ls : List Int} {o7 : Option PyData} {σ : L2.St} (x : LI w K H0 h r s rs v3 p ls o7 σ H) (e : Ex H H') : LI w K H0 h r s rs v3 p ls o7 σ H' := ⟨x.ex.trans e, x.lc.up e, x.row, let ⟨q, vs, a, b⟩ := x.li; ⟨q, vs, a.up e, b⟩⟩
theorem ok_law_leads_by (T : Fx K mg) : OkF P w K mg base 8 "_law_leads_by" ["_law_yard_here", "_law_two", "_law_sort", "_law_row"] (spX w K 4 (RX_leads_by K)) := by
  refine mk_okX T 56 rfl sc_law_leads_by rfl (fun _ _ _ _ _ _ us hl => match us, hl with | [_, _, _, _], _ => rfl) fun cdv A outer sh H E hr dl O hR _ => ?_
  obtain ⟨h, r, s, rs, row, t, ho, hro, hso, hcalls, hlen, rfl, rfl⟩ := hR
  have hn1 := ho.n1
  have hn4 := ho.n4
  refine so_h fun σ0 H0 L0 => ?_
  have hnd : nd (rowD t row) = true := by cases t <;> rfl
  obtain ⟨v3, e3, d3⟩ := L0.2 3 (rowD t row) rfl
  have d3 := d3.dp hnd
  refine hs_cons (M := fun σ H => Ex H0 H ∧ σ[3]? = some (some v3) ∧ Lc w K H σ [some h.enc, some (encTwo r s), some (.str (kindS rs)), none, some (encL (none0 h)), none, none, none]) (hs_asg (ds := startD 8 [h.enc, encTwo r s, .str (kindS rs), rowD t row]) 4 sc_law_leads_by.nd (pd_eq (pd_repN (pd_tup (ad_cons pd_int ad_nil) (by exact lle rfl)) (pd_len T.f_len (pd_ix (pd_name 0) pd_int rfl)) (by rw [List.length_map]; omega) (by rw [List.length_map]; omega)) (none_eq h)) (fun σ H q => by obtain ⟨rfl, rfl⟩ := q; exact L0) (fun σ H v H' q e dv => by
    obtain ⟨rfl, rfl⟩ := q
    exact ⟨e, set_ne (by decide) e3, SubD.lc (.same (.same (.same (.skip (.same (.same (.same (.same .nil)))))))) ((L0.up e).set 4 dv)⟩)) ?_
  refine hs_cons (M := LI w K H0 h r s rs v3 (first h) [] none) (ps_imp (ps_par (i := 5) (j := 6) rfl sc_law_leads_by.nd rfl rfl (by decide) rfl rfl
    (pa_cons (pd_tup (dl := [encL (none0 h), .int 0, encL (none0 h), .int 0, .int (-1)]) (ds := [some h.enc, some (encTwo r s), some (.str (kindS rs)), none, some (encL (none0 h)), none, none, none]) (ad_cons (pd_name 4) (ad_cons pd_int (ad_cons (pd_name 4) (ad_cons pd_int (ad_cons (pd_neg pd_int) ad_nil))))) (by exact lle rfl))
    (pa_cons (po_lst (ds := [some h.enc, some (encTwo r s), some (.str (kindS rs)), none, some (encL (none0 h)), none, none, none]) ad_nil (by exact lle rfl)) pa_nil)) rfl rfl) fun D σ H q => ?_) ?_
  · obtain ⟨⟨x, e3', L⟩, hN, _⟩ := q
    refine ⟨L, fun v1 H1 e1 d1 => ⟨L.up e1, fun H2 v2 H3 e2 o => ⟨v1, v2, rfl, hN _ _ ?_⟩⟩⟩
    obtain ⟨x2, q, vs, rfl, nq, hq, dq⟩ := o
    have ee := (e1.trans e2).trans x2
    refine ⟨x.trans ee, ?_, set_ne (by decide) (set_ne (by decide) e3'), q, vs, ⟨set_eq (by rw [List.length_set, L.1]; exact lle rfl), hq, dq⟩, ex_none (x.trans (e1.trans e2)) nq⟩
    exact ((L.up ee).set 5 (d1.up (e2.trans x2))).un 6 _
  refine hs_cons (M := LI w K H0 h r s rs v3 (stAt h r s rs row row.length) (leadsBy h r s rs row) none) ?_ ?_
  · have pi_row : ∀ {tg : Expr} {pos : Pos}, PI (cxOf CX0 P w K mg base N_law_leads_by "_law_leads_by" (defScope (top 93)) (He.ga K "_law_leads_by") cdv A outer sh H E).nox tg (.Name "_law_row" pos) (fun σ H R => σ[3]? = some (some v3) ∧ Dp K H v3 (rowD t row) ∧ ∀ J, (∀ H1, Dp K H1 v3 (rowD t row) → Walks K J H1 (row.map .int)) → R J H) := fun {tg pos} => by
      cases t with
      | true =>
        refine pi_imp (pi_tup (pe_var (i := 3) rfl (Or.inl rfl) (by decide) (by decide))) fun σ H R q => ?_
        obtain ⟨e, dv, k⟩ := q
        have dv' := dv
        cases dv with
        | tup hs hd => exact ⟨_, e, _, rfl, ⟨_, hs⟩, k _ fun H1 h1 => walks_tup h1⟩
      | false =>
        refine pi_imp (pi_list (pe_var (i := 3) rfl (Or.inl rfl) (by decide) (by decide))) fun σ H R q => ?_
        obtain ⟨e, dv, k⟩ := q
        cases dv with
        | lst hs hd => exact ⟨_, e, _, rfl, ⟨_, hs⟩, k _ fun H1 h1 => walks_list h1⟩
    refine hp_forG (items := row) (en := .int) 7
      (fun v i σ H => i ≤ row.length ∧ LI w K H0 h r s rs v3 (stAt h r s rs row i) ((List.range i).map fun j => lead h (stAt h r s rs row (j + 1))) none σ H)
      (fun v i f σ H => i < row.length ∧ LI w K H0 h r s rs v3 (stAt h r s rs row i) ((List.range i).map fun j => lead h (stAt h r s rs row (j + 1))) (some (.int f)) σ H)
      nox_xe rfl sc_law_leads_by.nd pi_row (fun σ H R' q c => ⟨q.row, d3.up q.ex, fun J wk => c J .non H (fun i σ1 H1 hI => wk H1 (d3.up hI.2.ex)) ⟨Nat.zero_le _, q⟩⟩) (fun v σ H q => q.2) (fun v i f σ H u H2 hi q e du => ?_) (fun v i f hi => ?_)
    · have y := q.2.up e
      obtain ⟨q', vs, Li, nq⟩ := y.li
      exact ⟨(List.getElem?_eq_some_iff.mp hi).1, y.ex, y.lc.set 7 du, set_ne (by decide) y.row, q', vs, Li.set (by decide), nq⟩
    · have gp := stAt_good (r := r) (s := s) (rs := rs) ho hcalls i
      obtain ⟨n, rfl, hn⟩ := call_nat hcalls (List.mem_of_getElem? hi)
      have so := step_ok (rs := rs) ho gp hn hro.ok hso.ok hro.deep hso.deep
      have e := stAt_next (h := h) (r := r) (s := s) (rs := rs) hi
      have g2 := stAt_good (r := r) (s := s) (rs := rs) ho hcalls (i + 1)
      refine hs_cons (M := fun σ H => i < row.length ∧ LI w K H0 h r s rs v3 (stAt h r s rs row (i + 1)) ((List.range i).map fun j => lead h (stAt h r s rs row (j + 1))) (some (.int n)) σ H)
        (hs_asg (ds := lbs h r s rs (stAt h r s rs row i) (some (.int n))) 5 sc_law_leads_by.nd (pd_fn (ok_law_both T) hr ⟨h, r, s, rs, stAt h r s rs row i, n, so.1, so.2, rfl, rfl⟩ (ad_cons (pd_name 0) (ad_cons (pd_name 1) (ad_cons (pd_name 2) (ad_cons (pd_name 5) (ad_cons (pd_name 7) ad_nil)))))) (fun σ H q => q.2.lc) (fun σ H u H' q e' du => ?_))
        (hs_one (hp_append (d := .int (lead h (stAt h r s rs row (i + 1)))) (ds := lbs h r s rs (stAt h r s rs row (i + 1)) (some (.int n))) 6 (pd_fn (ok_law_lead T) hr ⟨h, _, ho, g2.1, g2.2.1, rfl, rfl⟩ (ad_cons (pd_name 0) (ad_cons (pd_name 5) ad_nil))) (fun σ H q => q.2.lc) (fun σ H q => ?_)))
      · have y := q.2.up e'
        obtain ⟨q', vs, Li, nq⟩ := y.li
        rw [e]
        exact ⟨q.1, y.ex, y.lc.set 5 du, set_ne (by decide) y.row, q', vs, Li.set (by decide), nq⟩
      · obtain ⟨hi', y⟩ := q
        obtain ⟨q', vs, Li, nq⟩ := y.li
        have hvl : vs.length = i := by rw [dpa_len Li.data, List.length_map, List.length_map, List.length_range]
        refine ⟨q', vs, Li.slot, Li.here, by omega, fun v1 H1 e1 d1 => ?_⟩
        have y1 := y.up e1
        have L1 := Li.up e1
        have al : AtLst q' H1 (upd H1 q' (.lst (vs ++ [v1]))) := ⟨⟨_, L1.here⟩, fun b hb => upd_ne hb⟩
        refine ⟨hi', Evl.Ex.mut y1.ex nq, ?_, y1.row, q', vs ++ [v1], ⟨L1.slot, upd_same, ?_⟩, nq⟩
        · exact SubD.lc (.same (.same (.same (.same (.same (.same (.same (.skip .nil)))))))) (y1.lc.lput al (lbs_pu fun d e => by cases e; exact pure_int _))
        · rw [leadsBy_take hi', List.map_append]
          exact dpa_append (dpa_upT al.exT _ (pureAll_map fun a _ => pure_int a) L1.data) (.cons (d1.upT (pure_int _) al.exT) .nil)
  · refine hs_one (ps_imp (ps_ret (pe_var (i := 6) rfl (Or.inl rfl) (by decide) (by decide))) fun D σ H q => ?_)
    obtain ⟨x, _, hR⟩ := q
    obtain ⟨q, vs, Li, nq⟩ := x.li
    exact ⟨_, Li.slot, hR _ _ ⟨x.ex, q, vs, rfl, nq, Li.here, Li.data⟩⟩
end
end G33
set_option Elab.async false
set_option linter.all false
set_option maxRecDepth 100000
set_option maxHeartbeats 4000000
namespace G33
open PySem PySem.Spec PyProof.Rows L2
structure WayOk (h : Hall) (r s : Ru) (rs : Bool) (row : List Int) (g : Int) : Prop where
  ho : h.Ok
  ro : RuOk h r
  so : RuOk h s
  calls : Calls h row
  few : row.length ≤ 20000
  up : rs = true → row.Pairwise (· ≤ ·)
  end_ : (0 :: leadsBy h r s rs row).getLast? = some g
theorem filter_ff {α : Type} {l : List α} : l.filter (fun _ => false) = [] := List.filter_eq_nil_iff.mpr fun _ _ => by simp
section
variable {P : Program} {w : World} {K : PySem.W.Frag} {mg : Str → Option Value} {base : Heap}
/-- a promise's new list, tracked -/
theorem tk_o {X : Cx} {ds : Ds} {e : Expr} {xs : List PyData} (h : PE X e (teO X.w X.K ds (oN X.K xs))) : PE X e (tkL X.w X.K ds xs) := pe_imp h fun σ H Q q => ⟨q.1, fun H1 v H' e1 o => by
  obtain ⟨e2, p, vs, rfl, _, hp, hd⟩ := o
  exact q.2 p vs H' (e1.trans e2) hp hd⟩
abbrev N_law_like : List Str := ["_law_heard", "_law_due"]
theorem sc_law_like : FnScope N_law_like ["_law_heard", "_law_due"] (defScope (top 79)) := ⟨rfl, rfl, rfl, by decide +kernel, rfl, by decide +kernel, by decide +kernel⟩
def RX_law_like (K : PySem.W.Frag) : List PyData → Out → Prop := fun dl O => ∃ d, Shown d ∧ dl = [d, d] ∧ O = oD K (.bool true)
theorem ok_law_like (T : Fx K mg) : OkG P w K mg base 1 "_law_like" ["_law_heard", "_law_due"] (spX w K 2 (RX_law_like K)) := by
  refine mk_okG T 42 rfl sc_law_like rfl (fun _ _ _ _ _ _ us hl => match us, hl with | [_, _], _ => rfl) fun cdv A outer s H E hgd hr dl O hR _ => ?_
  obtain ⟨d, sh, rfl, rfl⟩ := hR
  have hn : nd d = true := by rcases sh.way with ⟨_, rfl⟩ | ⟨_, rfl⟩ | ⟨_, rfl⟩ <;> rfl
  exact so_d (sr_ret (pd_eq (pd_eqS (pd_repr (d := d) hgd hr.units T.f_repr (pd_name 0 (hp := hn)) sh) (pd_repr (d := d) hgd hr.units T.f_repr (pd_name 1 (hp := hn)) sh)) (by rw [eqv_str, decide_eq_true rfl])))
abbrev N_law_is_way : List Str := ["_law_yard_here", "_law_two", "_law_sort", "_law_row", "_law_lead_here", "_law_depth", "_law_one"]
theorem sc_law_is_way : FnScope N_law_is_way ["_law_yard_here", "_law_two", "_law_sort", "_law_row", "_law_lead_here", "_law_depth"] (defScope (top 94)) := ⟨rfl, rfl, rfl, by decide +kernel, rfl, by decide +kernel, by decide +kernel⟩
def R_law_is_way : List PyData → PyData → Prop := fun dl d => ∃ (h : Hall) (r s : Ru) (rs : Bool) (row : List Int) (g : Int), WayOk h r s rs row g ∧ dl = [h.enc, encTwo r s, .str (kindS rs), encL row, .int g, .int (row.length : Nat)] ∧ d = .bool true
theorem ok_law_is_way (T : Fx K mg) : OkF P w K mg base 9 "_law_is_way" ["_law_yard_here", "_law_two", "_law_sort", "_law_row", "_law_lead_here", "_law_depth"] (spD K 6 R_law_is_way) := by
  refine mk_ok T 57 rfl sc_law_is_way rfl (fun _ _ _ _ _ _ us hl => match us, hl with | [_, _, _, _, _, _], _ => rfl) fun cdv A outer s H E hr dl d hR _ => ?_
  obtain ⟨h, r, s, rs, row, g, x, rfl, rfl⟩ := hR
  have hf := x.few
  have hlb : (leadsBy h r s rs row).length = row.length := by rw [leadsBy, List.length_map, List.length_range]
  refine
    (sr_no (pt_eq (w_t (wt_or (pt_no (pt_b (pd_is T.f_isinstance T.f_tuple bt_tuple (pd_name 3) ki_tuple_tuple))) (fun hb => (wt_or1 (pt_neS (pd_len T.f_len (pd_name 3)) (pd_name 5)))))) ?_)
    (sr_no (pt_eq (pt_neD hr.units (pd_lc1 6 row .int (fun _ => false) .int rfl sc_law_is_way.nd (wd_eq (wd_tup (pd_name 3)) rfl) (blkOk_by (N := N_law_is_way) (sc := defScope (top 94)) (by decide +kernel)) (fun _ _ _ _ _ => pg_name sc_law_is_way.nd rfl (.inl rfl)) (fun a ha => pure_int _) (by omega) (fun a ha _ _ _ _ _ => (ptd_one (pt_eq (pt_no (pt_b (pd_fn (ok_law_is_int T) hr ⟨a, 0, (h.fares.length : Int) - 1, rfl, rfl⟩ (ad_cons (pd_name 6) (ad_cons pd_int (ad_cons (pd_eq (pd_sub (pd_len T.f_len (pd_ix (pd_name 0) pd_int rfl)) pd_int) (by rw [List.length_map])) ad_nil)))))) ?_))) (fun a ha hf _ _ _ _ _ => (pd_name 6))) (pd_lst ad_nil (by exact lle rfl)) ?_ ?_) ?_)
    (sr_no (pt_eq (w_t (wt_and (pt_eqS (pd_name 2) pd_str) (fun hb => (wt_and1 (k := false) (pt_eq (pt_neD hr.units (pd_list T.f_list (pd_name 3) (.inr rfl)) (pd_oN (po_sortedI (t := true) (ns := row) (ms := row) T.f_sorted (by omega) (List.Perm.refl _) ?_ (pd_name 3))) ?_ ?_) ?_))))) ?_)
    (sr_ret (pd_eq (pd_eqS (pd_ixL (d := .int g) (lk_d (lk_cat (lk_lst (ad_cons pd_int ad_nil) (by exact lle rfl)) (tk_o (po_call (ok_law_leads_by T) hr ⟨h, r, s, rs, row, true, x.ho, x.ro, x.so, x.calls, x.few, rfl, rfl⟩ (ah_d (ad_cons (pd_name 0) (ad_cons (pd_name 1) (ad_cons (pd_name 2) (ad_cons (pd_name 3) ad_nil))))))) ?_)) (pd_neg pd_int) ?_) (pd_name 4)) ?_)))))
  · rw [List.length_map]
    show (!true || !PyData.eqv (.int (row.length : Nat)) (.int (row.length : Nat))) = false
    rw [eqv_int, decide_eq_true rfl]; rfl
  · have c := x.calls a ha
    show (!(decide (0 ≤ a) && decide (a ≤ (h.fares.length : Int) - 1))) = false
    rw [decide_eq_true c.1, decide_eq_true c.2]; rfl
  · rw [filter_ff]; exact sh_nilL
  · exact sh_nilL
  · rw [filter_ff]; rfl
  · refine x.up ?_
    have hb : PyData.eqv (.str (kindS rs)) (.str "rising") = true := hb
    rw [eqv_str] at hb
    cases rs with
    | true => rfl
    | false => exact absurd hb (by decide)
  · exact (shp_ints row (n := 1)).ok (by decide)
  · exact (shp_ints row (n := 1)).ok (by decide)
  · rw [eqv_intsL]; simp
  · rw [Bool.and_false]
  · rw [List.length_map, hlb]; show 1 + row.length ≤ 100000; omega
  · rw [show ([PyData.int 0] ++ (leadsBy h r s rs row).map .int) = (0 :: leadsBy h r s rs row).map .int from rfl, atI_last _ (by simp), List.getLast?_map, x.end_]; rfl
  · show PyData.bool (PyData.eqv (.int g) (.int g)) = _
    rw [eqv_int, decide_eq_true rfl]
end
end G33
set_option Elab.async false
set_option linter.all false
set_option maxRecDepth 100000
set_option maxHeartbeats 4000000
namespace G33
open PySem PySem.Spec PyProof.Rows L2
/-! ### a list that grows by x = x + [..] -/
def tLi (w : World) (K : PySem.W.Frag) (ds : Ds) (t : Nat) (xs ys : List PyData) : TE := fun σ H Q => Lc w K H σ ds ∧ (∃ q vs, LiA K H σ t q vs xs) ∧ ∀ p vs H', Ex H H' → H' p = some (.lst vs) → DpAll K H' vs ys → Q (.ref p) H'
def tRL (w : World) (K : PySem.W.Frag) (ds : Ds) (t : Nat) (xs : List PyData) (d : PyData) : TS := fun D σ H => Lc w K H σ ds ∧ (∃ q vs, LiA K H σ t q vs xs) ∧ ∀ v H', Ex H H' → Dp K H' v d → D.rt v H'
section
variable {X : Cx} {ds : Ds} {d : PyData} {a b e : Expr} {xs ys zs : List PyData} {rest sts : List Stmt} {x : Str} {pos pos' p : Pos} {t : Nat}
theorem li_name (t : Nat) {x : Str} (hN : X.N[t]? = some x := by rfl) (hv : Vis X.env.scope x := by first | exact Or.inl rfl | exact Or.inr (Or.inl rfl) | exact Or.inr (Or.inr rfl)) (hd : (x == ("__debug__" : Str)) = false := by decide) (hcd : (x == ("__classdict__" : Str)) = false := by decide) : PE X (.Name x p) (tLi X.w X.K ds t xs xs) :=
  pe_imp (pe_var hN hv hd hcd) fun σ H Q q => let ⟨p, vs, L⟩ := q.2.1; ⟨_, L.slot, q.2.2 p vs H (Evl.Ex.refl H) L.here L.data⟩
theorem li_cat (h1 : PE X a (tLi X.w X.K ds t xs ys)) (h2 : PE X b (tkL X.w X.K ds zs)) (hl : ys.length + zs.length ≤ 100000) : PE X (.BinOp a .Add b pos) (tLi X.w X.K ds t xs (ys ++ zs)) :=
  pe_imp (pe_op op_cat h1 h2) fun σ H Q q => ⟨q.1, q.2.1, fun p vs H1 e1 hp hd => ⟨q.1.up e1, fun p2 vs2 H2 e2 hp2 hd2 => by
    refine ⟨p, p2, vs, vs2, rfl, rfl, e2 _ _ hp, hp2, ?_, fun r hr => q.2.2 _ _ _ ((e1.trans e2).trans (Evl.Ex.new hr)) upd_same ((dpa_append (hd.up e2) hd2).up (Evl.Ex.new hr))⟩
    rw [dpa_len hd, dpa_len hd2]
    exact Evl.sz_of hl⟩⟩
theorem sl_start (t : Nat) (hN : X.N.Nodup) (he : PE X e (tkL X.w X.K ds xs)) (hr : PSs X rest (tRL X.w X.K (ds.set t (some (.list xs))) t xs d)) (ht : t < ds.length := by exact lle rfl) (hi : X.N[t]? = some x := by rfl) (hx : Loc X.env.scope x := by first | exact .inl rfl | exact .inr rfl)
    (hs : swapsWith e (some (.Name x pos')) pos.line X.env = Pure.pure false := by rfl) (hf : X.fn x = true ∨ X.env.scope.names.lookup x = some .local := by first | exact .inl rfl | exact .inr rfl) : PSs X (.Assign [.Name x pos'] e pos :: rest) (tR X.w X.K ds d) :=
  pss_imp (pss_cons (ps_set hN hi hx he hs hf) hr) fun D σ H q => ⟨q.1, fun p vs H1 e1 hp hd => ⟨(q.1.up e1).set t (.lst (.inl (.inl hp)) hd), ⟨p, vs, ⟨set_eq (by rw [q.1.1]; exact ht), hp, hd⟩⟩, fun v H2 e2 d2 => q.2 v H2 (e1.trans e2) d2⟩⟩
theorem sl_cat (hN : X.N.Nodup) (he : PE X e (tLi X.w X.K ds t xs ys)) (hr : PSs X rest (tRL X.w X.K (ds.set t (some (.list ys))) t ys d)) (ht : t < ds.length := by exact lle rfl) (hi : X.N[t]? = some x := by rfl) (hx : Loc X.env.scope x := by first | exact .inl rfl | exact .inr rfl)
    (hs : swapsWith e (some (.Name x pos')) pos.line X.env = Pure.pure false := by rfl) (hf : X.fn x = true ∨ X.env.scope.names.lookup x = some .local := by first | exact .inl rfl | exact .inr rfl) : PSs X (.Assign [.Name x pos'] e pos :: rest) (tRL X.w X.K ds t xs d) :=
  pss_imp (pss_cons (ps_set hN hi hx he hs hf) hr) fun D σ H q => ⟨q.1, q.2.1, fun p vs H1 e1 hp hd => ⟨(q.1.up e1).set t (.lst (.inl (.inl hp)) hd), ⟨p, vs, ⟨set_eq (by rw [q.1.1]; exact ht), hp, hd⟩⟩, fun v H2 e2 d2 => q.2.2 v H2 (e1.trans e2) d2⟩⟩
theorem sl_end (h : PSs X sts (tR X.w X.K ds d)) : PSs X sts (tRL X.w X.K ds t xs d) := pss_imp h fun D σ H q => ⟨q.1, q.2.2⟩
end
/-! ### what the law asks of a script's pair -/
def depthsAt (h : Hall) (kv : List (Pr × Nat)) (g : Int) : List Int := (kv.filter fun q => decide (lead h q.1 = g)).map fun q => (q.2 : Int)
def apartD (h : Hall) (kv : List (Pr × Nat)) : List Int := (kv.filter fun q => !decide (lead h q.1 = 0)).map fun q => (q.2 : Int)
theorem lookup_mem_nd {α : Type} : ∀ {kv : List (Pr × α)} {q : Pr × α}, (kv.map (·.1)).Nodup → q ∈ kv → kv.lookup q.1 = some q.2
  | [], _, _, h => nomatch h
  | c :: kv, q, hn, h => by
    rw [List.map_cons, List.nodup_cons] at hn
    show (match q.1 == c.1 with | true => some c.2 | false => kv.lookup q.1) = some q.2
    rcases List.mem_cons.mp h with rfl | h
    · rw [beq_self_eq_true]
    · have : (q.1 == c.1) = false := by
        rw [beq_eq_false_iff_ne]
        intro e
        exact hn.1 (e ▸ List.mem_map.mpr ⟨q, h, rfl⟩)
      rw [this]
      exact lookup_mem_nd hn.2 h
theorem kvI_at {kv : List (Pr × Nat)} {q : Pr × Nat} (hn : (kv.map (·.1)).Nodup) (h : q ∈ kv) : (KvI kv).lookup q.1 = some (.int (q.2 : Nat)) := by
  have := lookup_map (fun n : Nat => PyData.int n) q.1 kv
  rw [show KvI kv = kv.map fun q => (q.1, (fun n : Nat => PyData.int n) q.2) from rfl, this, lookup_mem_nd hn h]
  rfl
abbrev toldD (lo hi : Int) : PyData := .list [.tuple [.int lo, .int hi], .bool (decide (0 ≤ lo)), .bool (decide (lo = 0 ∧ hi = 0)), .tuple [.int (-hi), .int (-lo)]]
structure RightOk (h : Hall) (r s : Ru) (rs : Bool) (dkv : List (Pr × Nat)) (fin fin2 : Bs (List Int)) (lo hi : Int) (rhi rlo : List Int) : Prop where
  go : GoOk h r s rs fin
  gs : GoOk h s r rs fin2
  xlo : Extr true lo (leads h fin.1)
  xhi : Extr false hi (leads h fin.1)
  ylo : Extr true (-hi) (leads h fin2.1)
  yhi : Extr false (-lo) (leads h fin2.1)
  dlo : Extr true lo (leads h dkv)
  dhi : Extr false hi (leads h dkv)
  nd : (dkv.map (·.1)).Nodup
  few : dkv.length ≤ 250
  st : ∀ q ∈ dkv, StG h rs q.1
  hhi : (rowsAt h fin.1 hi).head? = some rhi
  hlo : (rowsAt h fin.1 lo).head? = some rlo
  mhi : Extr true (rhi.length : Nat) (depthsAt h dkv hi)
  mlo : Extr true (rlo.length : Nat) (depthsAt h dkv lo)
  whi : WayOk h r s rs rhi hi
  wlo : WayOk h r s rs rlo lo
  prt : (parting h fin.1 = [] ∧ apartD h dkv = []) ∨ ∃ row, (parting h fin.1).head? = some row ∧ Extr true (row.length : Nat) (apartD h dkv) ∧ ∃ g, g ≠ 0 ∧ WayOk h r s rs row g
  shn : Shown (toldD lo hi)
theorem sh_optR (o : Option (List Int)) : SeqAt.shaped (optR o) = true := by
  cases o with
  | none => exact (shp_non (n := 1)).ok (by decide)
  | some l => exact (shp_encL l (n := 1)).ok (by decide)
section
variable {P : Program} {w : World} {K : PySem.W.Frag} {mg : Str → Option Value} {base : Heap}
abbrev N_law_right : List Str := ["_law_yard_here", "_law_two", "_law_sort", "_law_depths_here", "_law_some", "_law_low", "_law_high", "_law_told_here", "_law_is_low", "_law_goal", "_law_row", "_law_depth", "_law_apart", "_law_last", "_law_pair", "_law_one"]
theorem sc_law_right : FnScope N_law_right ["_law_yard_here", "_law_two", "_law_sort", "_law_depths_here"] (defScope (top 95)) := ⟨rfl, rfl, rfl, by decide +kernel, rfl, by decide +kernel, by decide +kernel⟩
def RX_law_right (K : PySem.W.Frag) : List PyData → Out → Prop := fun dl O => ∃ (h : Hall) (r s : Ru) (rs : Bool) (dkv : List (Pr × Nat)) (fin fin2 : Bs (List Int)) (lo hi : Int) (rhi rlo : List Int), RightOk h r s rs dkv fin fin2 lo hi rhi rlo ∧ dl = [h.enc, encTwo r s, .str (kindS rs), dictD (KvI dkv)] ∧ O = oD K (.bool true)
def rds (h : Hall) (r s : Ru) (rs : Bool) (dkv : List (Pr × Nat)) (lo hi : Int) (o8 o9 o10 o11 : Option PyData) : Ds := [some h.enc, some (encTwo r s), some (.str (kindS rs)), some (dictD (KvI dkv)), some (.list ((leads h dkv).map .int)), some (.int lo), some (.int hi), some (toldD lo hi), o8, o9, o10, o11, none, none, none, none]
theorem ok_law_right (T : Fx K mg) : OkG P w K mg base 11 "_law_right" ["_law_yard_here", "_law_two", "_law_sort", "_law_depths_here"] (spX w K 4 (RX_law_right K)) := by
  refine mk_okG T 58 rfl sc_law_right rfl (fun _ _ _ _ _ _ us hl => match us, hl with | [_, _, _, _], _ => rfl) fun cdv A outer sh H E hgd hr dl O hR _ => ?_
  obtain ⟨h, r, s, rs, dkv, fin, fin2, lo, hi, rhi, rlo, x, rfl, rfl⟩ := hR
  have ho := x.go.ho
  have hfew := x.few
  have hsome : ((dkv.filter fun _ => true).map fun q => PyData.int (lead h q.1)) = (leads h dkv).map .int := by rw [filter_tt, leads, List.map_map]; rfl
  have hdep : ∀ g, ((dkv.filter fun q => decide (lead h q.1 = g)).map fun q => PyData.int (q.2 : Nat)) = (depthsAt h dkv g).map .int := fun g => by rw [depthsAt, List.map_map]; rfl
  have hap : ((dkv.filter fun q => !decide (lead h q.1 = 0)).map fun q => PyData.int (q.2 : Nat)) = (apartD h dkv).map .int := by rw [apartD, List.map_map]; rfl
  refine so_d
    (sr_asgL (asg_lc1 4 14 dkv (fun q => q.1.enc) (fun _ => true) (fun q => .int (lead h q.1)) rfl sc_law_right.nd (wd_eq (wd_tabK (ph_name 3)) (by rw [List.map_map]; rfl)) (blkOk_by (N := N_law_right) (sc := defScope (top 95)) (by decide +kernel)) (fun _ _ _ _ _ => pg_name sc_law_right.nd rfl (.inl rfl)) (fun a ha => pure_int _) (by omega) (fun a ha _ _ _ _ _ => ptd_nil) (fun a ha hf _ _ _ _ _ => (pd_fn (ok_law_lead T) hr ⟨h, a.1, ho, (x.st a ha).1, (x.st a ha).2.1, rfl, rfl⟩ (ad_cons (pd_name 0) (ad_cons (pd_name 14) ad_nil)))))
    ?_)
  rw [hsome]
  refine
    (sr_par2 5 6 rfl sc_law_right.nd (ad_cons (pd_min (ns := leads h dkv) rfl T.f_min x.dlo.1 (fun y hy => by simpa using x.dlo.2 y hy) (pd_name 4)) (ad_cons (pd_max (ns := leads h dkv) rfl T.f_max x.dhi.1 (fun y hy => by simpa using x.dhi.2 y hy) (pd_name 4)) ad_nil))
    (sl_start 7 sc_law_right.nd (lk_lst (ad_cons (pd_fn (ok_lead_range T) hr ⟨h, r, s, rs, fin, lo, hi, x.go, x.xlo, x.xhi, rfl, rfl⟩ (ad_cons (pd_name 0) (ad_cons (pd_ix (pd_name 1) pd_int rfl) (ad_cons (pd_ix (pd_name 1) pd_int rfl) (ad_cons (pd_name 2) ad_nil))))) (ad_cons (pd_fn (ok_never_less T) hr ⟨h, r, s, rs, fin, lo, hi, x.go, x.xlo, x.xhi, rfl, rfl⟩ (ad_cons (pd_name 0) (ad_cons (pd_ix (pd_name 1) pd_int rfl) (ad_cons (pd_ix (pd_name 1) pd_int rfl) (ad_cons (pd_name 2) ad_nil))))) ad_nil)) (by exact lle rfl))
    (sl_cat sc_law_right.nd (li_cat (li_name 7) (lk_lst (ad_cons (pd_fn (ok_are_alike T) hr ⟨h, r, s, rs, fin, lo, hi, x.go, x.xlo, x.xhi, rfl, rfl⟩ (ad_cons (pd_name 0) (ad_cons (pd_ix (pd_name 1) pd_int rfl) (ad_cons (pd_ix (pd_name 1) pd_int rfl) (ad_cons (pd_name 2) ad_nil))))) (ad_cons (pd_fn (ok_lead_range T) hr ⟨h, s, r, rs, fin2, -hi, -lo, x.gs, x.ylo, x.yhi, rfl, rfl⟩ (ad_cons (pd_name 0) (ad_cons (pd_ix (pd_name 1) pd_int rfl) (ad_cons (pd_ix (pd_name 1) pd_int rfl) (ad_cons (pd_name 2) ad_nil))))) ad_nil)) (by exact lle rfl)) (by exact lle rfl))
    (sl_end
    (sr_no (pt_eq (pt_no (pt_b (pd_o (po_callG (ok_law_like T) hgd hr ⟨toldD lo hi, x.shn, rfl, rfl⟩ (ah_d (ad_cons (pd_name 7) (ad_cons (pd_lst (ad_cons (pd_tup (ad_cons (pd_name 5) (ad_cons (pd_name 6) ad_nil)) (by exact lle rfl)) (ad_cons (pd_ge (pd_name 5) pd_int) (ad_cons (pd_eq (pd_eqeq (pd_name 5) pd_int (pd_name 6)) ?_) (ad_cons (pd_tup (ad_cons (pd_eq (pd_sub pd_int (pd_name 6)) ?_) (ad_cons (pd_eq (pd_sub pd_int (pd_name 5)) ?_) ad_nil)) (by exact lle rfl)) ad_nil)))) (by exact lle rfl)) ad_nil))))))) rfl)
    (sr_for2 8 9 [(false, hi), (true, lo)] (fun a => .bool a.1) (fun a => .int a.2) (fun _ => rds h r s rs dkv lo hi none none none none) (by decide) nox_xe rfl sc_law_right.nd (wd_tup (pd_tup (ad_cons (pd_tup (ad_cons pd_bl (ad_cons (pd_name 6) ad_nil)) (by exact lle rfl)) (ad_cons (pd_tup (ad_cons pd_bl (ad_cons (pd_name 5) ad_nil)) (by exact lle rfl)) ad_nil)) (by exact lle rfl))) (fun n a hit => ?_)
    ?_))))))
  · show PyData.bool (PyData.eqv (.int lo) (.int 0) && PyData.eqv (.int 0) (.int hi)) = _
    rw [eqv_int, eqv_int, ← Bool.decide_and]
    exact congrArg PyData.bool (decide_eq_decide.mpr ⟨fun q => ⟨q.1, q.2.symm⟩, fun q => ⟨q.1, q.2.symm⟩⟩)
  · rw [Int.zero_sub]
  · rw [Int.zero_sub]
  · have key : ∃ row, Extr a.1 a.2 (leads h fin.1) ∧ (rowsAt h fin.1 a.2).head? = some row ∧ Extr true (row.length : Nat) (depthsAt h dkv a.2) ∧ WayOk h r s rs row a.2 := by
      have : a = (false, hi) ∨ a = (true, lo) := by
        have := List.mem_of_getElem? hit
        simpa using this
      rcases this with rfl | rfl
      · exact ⟨rhi, x.xhi, x.hhi, x.mhi, x.whi⟩
      · exact ⟨rlo, x.xlo, x.hlo, x.mlo, x.wlo⟩
    obtain ⟨row, k1, k2, k3, k4⟩ := key
    refine
      (sn_asg 10 sc_law_right.nd (pd_leadK (dl := [h.enc, r.enc, s.enc, .str (kindS rs)]) (d := encL row) (ok_lead_row T) hr ⟨h, r, s, rs, a.1, fin, a.2, row, x.go, k1, k2, rfl, rfl⟩ (ad_cons (pd_name 0) (ad_cons (pd_ix (pd_name 1) pd_int rfl) (ad_cons (pd_ix (pd_name 1) pd_int rfl) (ad_cons (pd_name 2) ad_nil)))) (pd_name 8))
      (sn_asg 11 sc_law_right.nd (pd_min (ns := depthsAt h dkv a.2) rfl T.f_min k3.1 (fun y hy => by simpa using k3.2 y hy) (pd_eq (pd_lc1 14 dkv (fun q => q.1.enc) (fun q => decide (lead h q.1 = a.2)) (fun q => .int (q.2 : Nat)) rfl sc_law_right.nd (wd_eq (wd_tabK (ph_name 3)) (by rw [List.map_map]; rfl)) (blkOk_by (N := N_law_right) (sc := defScope (top 95)) (by decide +kernel)) (fun _ _ _ _ _ => pg_name sc_law_right.nd rfl (.inl rfl)) (fun a ha => pure_int _) (by omega) (fun q hq _ _ _ _ _ => (ptd_one (pt_eq (pt_eqS (pd_fn (ok_law_lead T) hr ⟨h, q.1, ho, (x.st q hq).1, (x.st q hq).2.1, rfl, rfl⟩ (ad_cons (pd_name 0) (ad_cons (pd_name 14) ad_nil))) (pd_name 9)) (eqv_int _ _)))) (fun q hq hf _ _ _ _ _ => (pd_getTab hr.units (ph_name 3) (pd_name 14) (kvI_at x.nd hq)))) (by rw [hdep])))
      (sn_no (pt_eq (pt_neD hr.units (pd_leadK (dl := [h.enc, r.enc, s.enc, .str (kindS rs)]) (d := encL row) (ok_lead_row T) hr ⟨h, r, s, rs, a.1, fin, a.2, row, x.go, k1, k2, rfl, rfl⟩ (ad_cons (pd_name 0) (ad_cons (pd_ix (pd_name 1) pd_int rfl) (ad_cons (pd_ix (pd_name 1) pd_int rfl) (ad_cons (pd_name 2) ad_nil)))) (pd_name 8)) (pd_name 10) (sh_optR (some row)) (sh_optR (some row))) ?_)
      (sn_no (pt_eq (pt_no (pt_b (pd_fn (ok_law_is_way T) hr ⟨h, r, s, rs, row, a.2, k4, rfl, rfl⟩ (ad_cons (pd_name 0) (ad_cons (pd_name 1) (ad_cons (pd_name 2) (ad_cons (pd_name 10) (ad_cons (pd_name 9) (ad_cons (pd_name 11) ad_nil))))))))) rfl)
      (sn_sub (.same (.same (.same (.same (.same (.same (.same (.same (.skip (.skip (.skip (.skip (.same (.same (.same (.same .nil)))))))))))))))) sn_nil)))))
    show (!PyData.eqv (encL row) (encL row)) = false
    rw [eqv_encL, decide_eq_true rfl]; rfl
  · rcases x.prt with ⟨e0, ea⟩ | ⟨row, e1, hm, g, hg, hw⟩
    · have e1 : (parting h fin.1).head? = none := by rw [e0]; rfl
      refine
      (sr_asg 10 sc_law_right.nd (pd_fn (d := .none) (ok_parting_row T) hr ⟨h, r, s, rs, fin, x.go, rfl, by rw [e1]; rfl⟩ (ad_cons (pd_name 0) (ad_cons (pd_ix (pd_name 1) pd_int rfl) (ad_cons (pd_ix (pd_name 1) pd_int rfl) (ad_cons (pd_name 2) ad_nil)))))
      (sr_asgL (asg_lc1 12 15 dkv (fun q => q.1.enc) (fun q => !decide (lead h q.1 = 0)) (fun q => .int (q.2 : Nat)) rfl sc_law_right.nd (wd_eq (wd_tabK (ph_name 3)) (by rw [List.map_map]; rfl)) (blkOk_by (N := N_law_right) (sc := defScope (top 95)) (by decide +kernel)) (fun _ _ _ _ _ => pg_name sc_law_right.nd rfl (.inl rfl)) (fun a ha => pure_int _) (by omega) (fun q hq _ _ _ _ _ => (ptd_one (pt_eq (pt_neS (pd_fn (ok_law_lead T) hr ⟨h, q.1, ho, (x.st q hq).1, (x.st q hq).2.1, rfl, rfl⟩ (ad_cons (pd_name 0) (ad_cons (pd_name 15) ad_nil))) pd_int) (by rw [eqv_int])))) (fun q hq hf _ _ _ _ _ => (pd_getTab hr.units (ph_name 3) (pd_name 15) (kvI_at x.nd hq))))
      ?_))
      rw [hap, ea]
      exact
        (sr_no (pt_eq (w_t (wt_or (k := false) (k' := false) (pt_eq (pt_neD hr.units (pd_fn (d := .none) (ok_parting_row T) hr ⟨h, r, s, rs, fin, x.go, rfl, by rw [e1]; rfl⟩ (ad_cons (pd_name 0) (ad_cons (pd_ix (pd_name 1) pd_int rfl) (ad_cons (pd_ix (pd_name 1) pd_int rfl) (ad_cons (pd_name 2) ad_nil))))) (pd_name 10) (sh_optR none) (sh_optR none)) rfl) (fun hb => (wt_or1 (pt_eq (pt_neS (pd_isN (pd_name 10)) (pd_eqD hr.units (pd_name 12) (pd_lst ad_nil (by exact lle rfl)) sh_nilL sh_nilL)) rfl))))) rfl)
        (sr_if (k := true) (pt_isN (pd_name 10)) (fun hb => (sr_ret pd_bl)) (fun hb => nomatch hb)))
    · have hap0 : (PyData.eqv (.list ((apartD h dkv).map .int)) (.list [])) = false := by
        rw [eqv_nilL]
        cases q : apartD h dkv with
        | nil => rw [q] at hm; exact nomatch hm.1
        | cons a l => rfl
      have hlast : atI ((leadsBy h r s rs row).map PyData.int) (-1) = some (.int g) := by
        have e := hw.end_
        cases q : leadsBy h r s rs row with
        | nil => rw [q] at e; simp at e; exact absurd e.symm hg
        | cons a l =>
          rw [q, List.getLast?_cons_cons] at e
          rw [atI_last _ (by simp), List.getLast?_map, e]
          rfl
      refine
      (sr_asg 10 sc_law_right.nd (pd_fn (d := encL row) (ok_parting_row T) hr ⟨h, r, s, rs, fin, x.go, rfl, by rw [e1]; rfl⟩ (ad_cons (pd_name 0) (ad_cons (pd_ix (pd_name 1) pd_int rfl) (ad_cons (pd_ix (pd_name 1) pd_int rfl) (ad_cons (pd_name 2) ad_nil)))))
      (sr_asgL (asg_lc1 12 15 dkv (fun q => q.1.enc) (fun q => !decide (lead h q.1 = 0)) (fun q => .int (q.2 : Nat)) rfl sc_law_right.nd (wd_eq (wd_tabK (ph_name 3)) (by rw [List.map_map]; rfl)) (blkOk_by (N := N_law_right) (sc := defScope (top 95)) (by decide +kernel)) (fun _ _ _ _ _ => pg_name sc_law_right.nd rfl (.inl rfl)) (fun a ha => pure_int _) (by omega) (fun q hq _ _ _ _ _ => (ptd_one (pt_eq (pt_neS (pd_fn (ok_law_lead T) hr ⟨h, q.1, ho, (x.st q hq).1, (x.st q hq).2.1, rfl, rfl⟩ (ad_cons (pd_name 0) (ad_cons (pd_name 15) ad_nil))) pd_int) (by rw [eqv_int])))) (fun q hq hf _ _ _ _ _ => (pd_getTab hr.units (ph_name 3) (pd_name 15) (kvI_at x.nd hq))))
      ?_))
      rw [hap]
      exact
        (sr_no (pt_eq (w_t (wt_or (k := false) (k' := false) (pt_eq (pt_neD hr.units (pd_fn (d := encL row) (ok_parting_row T) hr ⟨h, r, s, rs, fin, x.go, rfl, by rw [e1]; rfl⟩ (ad_cons (pd_name 0) (ad_cons (pd_ix (pd_name 1) pd_int rfl) (ad_cons (pd_ix (pd_name 1) pd_int rfl) (ad_cons (pd_name 2) ad_nil))))) (pd_name 10) (sh_optR (some row)) (sh_optR (some row))) (by show (!PyData.eqv (encL row) (encL row)) = false; rw [eqv_encL, decide_eq_true rfl]; rfl)) (fun hb => (wt_or1 (pt_eq (pt_neS (pd_isN (pd_name 10)) (pd_eqD hr.units (pd_name 12) (pd_lst ad_nil (by exact lle rfl)) ((shp_ints (apartD h dkv) (n := 1)).ok (by decide)) sh_nilL)) (by show (!PyData.eqv (.bool false) (.bool (PyData.eqv (.list ((apartD h dkv).map .int)) (.list [])))) = false; rw [hap0]; rfl)))))) rfl)
        (sr_if (k := false) (pt_isN (pd_name 10)) (fun hb => nomatch hb) (fun hb =>
        (sr_asg 13 sc_law_right.nd (pd_ixL (d := .int g) (pd_oN (po_call (ok_law_leads_by T) hr ⟨h, r, s, rs, row, true, hw.ho, hw.ro, hw.so, hw.calls, hw.few, rfl, rfl⟩ (ah_d (ad_cons (pd_name 0) (ad_cons (pd_name 1) (ad_cons (pd_name 2) (ad_cons (pd_name 10) ad_nil))))))) (pd_neg pd_int) hlast)
        (sr_ret (pd_eq (pd_and (k := true) (k' := true) (pd_eq (pd_neS (pd_name 13) pd_int) (by show PyData.bool (!PyData.eqv (.int g) (.int 0)) = _; rw [eqv_int, decide_eq_false hg]; rfl)) (fun hb => (pd_one (pd_fn (ok_law_is_way T) hr ⟨h, r, s, rs, row, g, hw, rfl, rfl⟩ (ad_cons (pd_name 0) (ad_cons (pd_name 1) (ad_cons (pd_name 2) (ad_cons (pd_name 10) (ad_cons (pd_name 13) (ad_cons (pd_min (ns := apartD h dkv) rfl T.f_min hm.1 (fun y hy => by simpa using hm.2 y hy) (pd_name 12)) ad_nil)))))))))) rfl))))))
end
end G33
set_option Elab.async false
set_option linter.all false
set_option maxRecDepth 100000
set_option maxHeartbeats 4000000
namespace G33
open PySem PySem.Spec PyProof.Rows L2
theorem eqvAll_prs : ∀ ps : List Pr, PyData.eqvAll (ps.map Pr.enc) (ps.map Pr.enc) = true
  | [] => by simp [PyData.eqvAll]
  | p :: ps => by rw [List.map_cons, PyData.eqvAll, eqv_pr, eqvAll_prs ps, decide_eq_true rfl]; rfl
theorem eqv_paper (g : Int) (ps : List Pr) (row : List Int) : PyData.eqv (paperD g ps row) (paperD g ps row) = true := by
  rw [eqv_tup, PyData.eqvAll, PyData.eqvAll, PyData.eqvAll, PyData.eqvAll, eqv_int, eqv_tup, eqvAll_prs, eqv_encL, decide_eq_true rfl, decide_eq_true rfl]
  rfl
theorem shp_prs (ps : List Pr) {n : Nat} : Shp (n + 3) (.tuple (ps.map Pr.enc)) := shp_mapT fun p _ => shp_pr p
theorem sh_paper (g : Int) (ps : List Pr) (row : List Int) : SeqAt.shaped (paperD g ps row) = true := (shp_tup (n := 3) fun x hx => by
  simp only [List.mem_cons, List.not_mem_nil, or_false] at hx
  rcases hx with rfl | rfl | rfl
  · exact shp_int _
  · exact shp_prs ps
  · exact shp_encL row).ok (by decide)
structure PaperOk (h : Hall) (r s : Ru) (rs : Bool) (dkv : List (Pr × Nat)) (fin : Bs (List Int)) (hi : Int) (rhi : List Int) : Prop where
  go : GoOk h r s rs fin
  xhi : Extr false hi (leads h fin.1)
  dhi : Extr false hi (leads h dkv)
  nd : (dkv.map (·.1)).Nodup
  few : dkv.length ≤ 250
  st : ∀ q ∈ dkv, StG h rs q.1
  hhi : (rowsAt h fin.1 hi).head? = some rhi
  mhi : Extr true (rhi.length : Nat) (depthsAt h dkv hi)
  whi : WayOk h r s rs rhi hi
  tbl : TblOk h r s rs hi (table fin.1)
  dos : DoesOk h r s rs hi rhi
  tab : table dkv = table fin.1
  shn : Shown (.tuple [.int hi, .tuple ((table fin.1).map Pr.enc)])
  shi : Shown (.int hi)
section
variable {P : Program} {w : World} {K : PySem.W.Frag} {mg : Str → Option Value} {base : Heap}
abbrev N_law_paper_right : List Str := ["_law_yard_here", "_law_two", "_law_sort", "_law_depths_here", "_law_sheet", "_law_high", "_law_depth", "_law_pair"]
theorem sc_law_paper_right : FnScope N_law_paper_right ["_law_yard_here", "_law_two", "_law_sort", "_law_depths_here"] (defScope (top 96)) := ⟨rfl, rfl, rfl, by decide +kernel, rfl, by decide +kernel, by decide +kernel⟩
def RX_law_paper (K : PySem.W.Frag) : List PyData → Out → Prop := fun dl O => ∃ (h : Hall) (r s : Ru) (rs : Bool) (dkv : List (Pr × Nat)) (fin : Bs (List Int)) (hi : Int) (rhi : List Int), PaperOk h r s rs dkv fin hi rhi ∧ dl = [h.enc, encTwo r s, .str (kindS rs), dictD (KvI dkv)] ∧ O = oD K (.bool true)
theorem ok_law_paper_right (T : Fx K mg) : OkG P w K mg base 11 "_law_paper_right" ["_law_yard_here", "_law_two", "_law_sort", "_law_depths_here"] (spX w K 4 (RX_law_paper K)) := by
  refine mk_okG T 59 rfl sc_law_paper_right rfl (fun _ _ _ _ _ _ us hl => match us, hl with | [_, _, _, _], _ => rfl) fun cdv A outer sh H E hgd hr dl O hR _ => ?_
  obtain ⟨h, r, s, rs, dkv, fin, hi, rhi, x, rfl, rfl⟩ := hR
  have ho := x.go.ho
  have hfew := x.few
  have hsome : ((dkv.filter fun _ => true).map fun q => PyData.int (lead h q.1)) = (leads h dkv).map .int := by rw [filter_tt, leads, List.map_map]; rfl
  have hdep : ∀ g, ((dkv.filter fun q => decide (lead h q.1 = g)).map fun q => PyData.int (q.2 : Nat)) = (depthsAt h dkv g).map .int := fun g => by rw [depthsAt, List.map_map]; rfl
  have hsl : PyData.tuple (cutD [PyData.int hi, .tuple ((table fin.1).map Pr.enc), encL rhi] none (some 2)) = .tuple [.int hi, .tuple ((table fin.1).map Pr.enc)] := rfl
  have htb : PyData.tuple ((table dkv).map Pr.enc) = .tuple ((table fin.1).map Pr.enc) := by rw [x.tab]
  refine so_d
    (sr_asg 4 sc_law_paper_right.nd (pd_fn (d := paperD hi (table fin.1) rhi) (ok_lead_paper T) hr ⟨h, r, s, rs, fin, hi, rhi, x.go, x.xhi, x.hhi, rfl, rfl⟩ (ad_cons (pd_name 0) (ad_cons (pd_ix (pd_name 1) pd_int rfl) (ad_cons (pd_ix (pd_name 1) pd_int rfl) (ad_cons (pd_name 2) ad_nil)))))
    (sr_asg 5 sc_law_paper_right.nd (pd_max (ns := leads h dkv) rfl T.f_max x.dhi.1 (fun y hy => by simpa using x.dhi.2 y hy) (pd_eq (pd_lc1 7 dkv (fun q => q.1.enc) (fun _ => true) (fun q => .int (lead h q.1)) rfl sc_law_paper_right.nd (wd_eq (wd_tabK (ph_name 3)) (by rw [List.map_map]; rfl)) (blkOk_by (N := N_law_paper_right) (sc := defScope (top 96)) (by decide +kernel)) (fun _ _ _ _ _ => pg_name sc_law_paper_right.nd rfl (.inl rfl)) (fun a ha => pure_int _) (by omega) (fun a ha _ _ _ _ _ => ptd_nil) (fun q hq _ _ _ _ _ _ => (pd_fn (ok_law_lead T) hr ⟨h, q.1, ho, (x.st q hq).1, (x.st q hq).2.1, rfl, rfl⟩ (ad_cons (pd_name 0) (ad_cons (pd_name 7) ad_nil))))) (by rw [hsome])))
    (sr_asg 6 sc_law_paper_right.nd (pd_min (ns := depthsAt h dkv hi) rfl T.f_min x.mhi.1 (fun y hy => by simpa using x.mhi.2 y hy) (pd_eq (pd_lc1 7 dkv (fun q => q.1.enc) (fun q => decide (lead h q.1 = hi)) (fun q => .int (q.2 : Nat)) rfl sc_law_paper_right.nd (wd_eq (wd_tabK (ph_name 3)) (by rw [List.map_map]; rfl)) (blkOk_by (N := N_law_paper_right) (sc := defScope (top 96)) (by decide +kernel)) (fun _ _ _ _ _ => pg_name sc_law_paper_right.nd rfl (.inl rfl)) (fun a ha => pure_int _) (by omega) (fun q hq _ _ _ _ _ => (ptd_one (pt_eq (pt_eqS (pd_fn (ok_law_lead T) hr ⟨h, q.1, ho, (x.st q hq).1, (x.st q hq).2.1, rfl, rfl⟩ (ad_cons (pd_name 0) (ad_cons (pd_name 7) ad_nil))) (pd_name 5)) (eqv_int _ _)))) (fun q hq hf _ _ _ _ _ => (pd_getTab hr.units (ph_name 3) (pd_name 7) (kvI_at x.nd hq)))) (by rw [hdep])))
    (sr_no (pt_eq (w_t (wt_or (k := false) (k' := false) (pt_eq (pt_no (pt_b (pd_is T.f_isinstance T.f_tuple bt_tuple (pd_name 4) ki_tuple_tuple))) rfl) (fun hb => (wt_or1 (pt_eq (pt_no (pt_b (pd_o (po_callG (ok_law_like T) hgd hr ⟨.tuple [.int hi, .tuple ((table fin.1).map Pr.enc)], x.shn, rfl, rfl⟩ (ah_d (ad_cons (pd_eq (pd_sl (pd_name 4) od_none (od_some pd_int)) hsl) (ad_cons (pd_tup (ad_cons (pd_name 5) (ad_cons (pd_eq (pd_tuple T.f_tuple (pd_oN (po_sortPr (ps := dkv.map fun q : Pr × Nat => q.1) hr.units T.f_sorted (by rw [List.length_map]; omega) (pd_eq (pd_oN (po_listTab rfl T.f_list (ph_name 3))) (by rw [List.map_map, List.map_map]; rfl)))) (.inl rfl)) htb) ad_nil)) (by exact lle rfl)) ad_nil))))))) rfl))))) rfl)
    (sr_no (pt_eq (w_t (wt_or (k := false) (k' := false) (pt_eq (pt_neS (pd_len T.f_len (pd_name 4)) pd_int) rfl) (fun hb => (wt_or1 (pt_eq (pt_no (pt_b (pd_fn (ok_law_is_way T) hr ⟨h, r, s, rs, rhi, hi, x.whi, rfl, rfl⟩ (ad_cons (pd_name 0) (ad_cons (pd_name 1) (ad_cons (pd_name 2) (ad_cons (pd_ix (pd_name 4) pd_int rfl) (ad_cons (pd_name 5) (ad_cons (pd_name 6) ad_nil))))))))) rfl))))) rfl)
    (sr_no (pt_eq (pt_neD hr.units (pd_fn (d := paperD hi (table fin.1) rhi) (ok_lead_paper T) hr ⟨h, r, s, rs, fin, hi, rhi, x.go, x.xhi, x.hhi, rfl, rfl⟩ (ad_cons (pd_name 0) (ad_cons (pd_ix (pd_name 1) pd_int rfl) (ad_cons (pd_ix (pd_name 1) pd_int rfl) (ad_cons (pd_name 2) ad_nil))))) (pd_name 4) (sh_paper _ _ _) (sh_paper _ _ _)) ?_)
    (sr_ret (pd_o (po_callG (ok_law_like T) hgd hr ⟨.int hi, x.shi, rfl, rfl⟩ (ah_d (ad_cons (pd_fn (ok_check_lead T) hr ⟨h, r, s, rs, hi, table fin.1, rhi, x.tbl, x.dos, rfl, rfl⟩ (ad_cons (pd_name 0) (ad_cons (pd_ix (pd_name 1) pd_int rfl) (ad_cons (pd_ix (pd_name 1) pd_int rfl) (ad_cons (pd_name 2) (ad_cons (pd_name 4) ad_nil)))))) (ad_cons (pd_name 5) ad_nil))))))))))))
  · show (!PyData.eqv (paperD hi (table fin.1) rhi) (paperD hi (table fin.1) rhi)) = false
    rw [eqv_paper]; rfl
end
end G33
set_option Elab.async false
set_option linter.all false
set_option maxRecDepth 100000
set_option maxHeartbeats 4000000
namespace G33
open PySem PySem.Spec PyProof.Rows L2
/-! ### what draws: the dict _law_m, its two lists -/
structure Mm where
  m : Addr
  c : Addr
  g : Addr
abbrev mkv (M : Mm) (k : Nat) : List (Key × V) := [(.inr "cells", .ref M.c), (.inr "great", .ref M.g), (.inr "spot", .int (k : Nat))]
structure MSk (M : Mm) (k : Nat) (cs gs : List Int) (H : Hp) : Prop where
  m : H M.m = some (.dK (mkv M k))
  c : H M.c = some (.lst (cs.map .int))
  g : H M.g = some (.lst (gs.map .int))
  c64 : cs.length = 64
  g63 : gs.length ≤ 63
  cg : M.c ≠ M.g
def MSt (M : Mm) (n : Nat) (H : Hp) : Prop := ∃ k cs gs, k ≤ n ∧ MSk M k cs gs H
/-- all else stands -/
def ExM (M : Mm) (H H' : Hp) : Prop := ∀ b o, b ≠ M.m → b ≠ M.g → H b = some o → H' b = some o
theorem ExM.refl (M : Mm) (H : Hp) : ExM M H H := fun _ _ _ _ h => h
theorem ExM.trans {M : Mm} {H H1 H2 : Hp} (a : ExM M H H1) (b : ExM M H1 H2) : ExM M H H2 := fun x o h1 h2 h => b x o h1 h2 (a x o h1 h2 h)
theorem ExM.of {M : Mm} {H H' : Hp} (e : Ex H H') : ExM M H H' := fun _ _ _ _ h => e _ _ h
theorem MSk.up {M : Mm} {k : Nat} {cs gs : List Int} {H H' : Hp} (x : MSk M k cs gs H) (e : Ex H H') : MSk M k cs gs H' := ⟨e _ _ x.m, e _ _ x.c, e _ _ x.g, x.c64, x.g63, x.cg⟩
theorem MSt.up {M : Mm} {n : Nat} {H H' : Hp} (x : MSt M n H) (e : Ex H H') : MSt M n H' := let ⟨k, cs, gs, h, y⟩ := x; ⟨k, cs, gs, h, y.up e⟩
theorem MSt.le {M : Mm} {n n' : Nat} {H : Hp} (x : MSt M n H) (h : n ≤ n') : MSt M n' H := let ⟨k, cs, gs, h1, y⟩ := x; ⟨k, cs, gs, Nat.le_trans h1 h, y⟩
theorem MSk.mg {M : Mm} {k : Nat} {cs gs : List Int} {H : Hp} (x : MSk M k cs gs H) : M.m ≠ M.g := fun e => by
  have h := x.m
  rw [e, x.g] at h
  cases h
theorem MSk.mc {M : Mm} {k : Nat} {cs gs : List Int} {H : Hp} (x : MSk M k cs gs H) : M.m ≠ M.c := fun e => by
  have h := x.m
  rw [e, x.c] at h
  cases h
theorem ExM.exT {M : Mm} {n : Nat} {H H' : Hp} (x : MSt M n H) (e : ExM M H H') : ExT H H' := fun b xs h => by
  obtain ⟨k, cs, gs, _, y⟩ := x
  have n1 : b ≠ M.m := by
    rintro rfl
    rcases h with h | ⟨o, h⟩ <;> (rw [y.m] at h; cases h)
  have n2 : b ≠ M.g := by
    rintro rfl
    rcases h with h | ⟨o, h⟩ <;> (rw [y.g] at h; cases h)
  rcases h with h | ⟨o, h⟩
  · exact .inl (e b _ n1 n2 h)
  · exact .inr ⟨o, e b _ n1 n2 h⟩
section
variable {X : Cx} {ds : Ds} {d d1 : PyData} {e : Expr} {pos pos' p p2 p3 p4 p5 : Pos}
def tGetM (t : Nat) (k : Str) : TE := fun σ H Q => ∃ a kvs v, σ[t]? = some (some (.ref a)) ∧ H a = some (.dK kvs) ∧ valV kvs (.inr k) = some v ∧ Q v H
theorem pm_get (t : Nat) {f k : Str} {j} (hu : X.A.units + 64 < cLine) (hN : X.N[t]? = some f := by rfl) (hv : Vis X.env.scope f := by first | exact Or.inl rfl | exact Or.inr (Or.inl rfl) | exact Or.inr (Or.inr rfl)) (hd : (f == ("__debug__" : Str)) = false := by decide) (hcd : (f == ("__classdict__" : Str)) = false := by decide)
    (hs : NoSl (.Constant (.str k) j p2) := by exact fun _ _ => rfl) : PE X (.Subscript (.Name f p) (.Constant (.str k) j p2) pos) (tGetM t k) :=
  pe_imp (pe_dget (by omega) (pe_var hN hv hd hcd) pe_str hs) fun σ H Q q => by
    obtain ⟨a, kvs, v, e1, e2, e3, q⟩ := q
    exact ⟨_, e1, a, v, rfl, e3 ▸ DGet.k (k := .inr k) e2, q⟩
/-- m[k] = e -/
theorem hp_putM (t : Nat) {f k : Str} {j} {P N : L2.St → Hp → Prop} {R : V → Hp → Prop} (hu : X.A.units + 64 < cLine) (he : PE X e (teD X.w X.K ds d)) (hL : ∀ σ H, P σ H → Lc X.w X.K H σ ds)
    (hn : ∀ σ H, P σ H → ∃ a kvs, σ[t]? = some (some (.ref a)) ∧ H a = some (.dK kvs) ∧ kvs.length < sizeLine ∧ ∀ v H1, Ex H H1 → Dp X.K H1 v d → N σ (upd H1 a (.dK (putK kvs (.inr k) v))))
    (hN : X.N[t]? = some f := by rfl) (hv : Vis X.env.scope f := by first | exact Or.inl rfl | exact Or.inr (Or.inl rfl) | exact Or.inr (Or.inr rfl)) (hd : (f == ("__debug__" : Str)) = false := by decide) (hcd : (f == ("__classdict__" : Str)) = false := by decide)
    (hs : swapsWith e (some (.Subscript (.Name f p) (.Constant (.str k) j p2) pos')) pos.line X.env = Pure.pure false := by rfl) :
    PS X (.Assign [.Subscript (.Name f p) (.Constant (.str k) j p2) pos'] e pos) (tH P N R) :=
  ps_imp (ps_dput (by omega) (pe_var hN hv hd hcd) pe_str he hs) fun D σ H q => by
    obtain ⟨a, kvs, e1, e2, hl, g⟩ := hn σ H q.1
    exact ⟨hL σ H q.1, fun v H1 x1 dv => ⟨_, e1, a, _, rfl, DPut.k (k := .inr k) (x1 _ _ e2) hl, q.2.1 _ _ (g v H1 x1 dv)⟩⟩
/-- x = m[k] -/
theorem hp_asgM (i t : Nat) {x f k : Str} {j} {P N : L2.St → Hp → Prop} {R : V → Hp → Prop} (hu : X.A.units + 64 < cLine) (hNd : X.N.Nodup) (hn : ∀ σ H, P σ H → ∃ a kvs v, σ[t]? = some (some (.ref a)) ∧ H a = some (.dK kvs) ∧ valV kvs (.inr k) = some v ∧ N (σ.set i (some v)) H)
    (hi : X.N[i]? = some x := by rfl) (hx : Loc X.env.scope x := by first | exact .inl rfl | exact .inr rfl)
    (hs : swapsWith (.Subscript (.Name f p) (.Constant (.str k) j p2) p3) (some (.Name x pos')) pos.line X.env = Pure.pure false := by rfl) (hf : X.fn x = true ∨ X.env.scope.names.lookup x = some .local := by first | exact .inl rfl | exact .inr rfl)
    (hN : X.N[t]? = some f := by rfl) (hv : Vis X.env.scope f := by first | exact Or.inl rfl | exact Or.inr (Or.inl rfl) | exact Or.inr (Or.inr rfl)) (hd : (f == ("__debug__" : Str)) = false := by decide) (hcd : (f == ("__classdict__" : Str)) = false := by decide)
    (hsl : NoSl (.Constant (.str k) j p2) := by exact fun _ _ => rfl) :
    PS X (.Assign [.Name x pos'] (.Subscript (.Name f p) (.Constant (.str k) j p2) p3) pos) (tH P N R) :=
  ps_imp (ps_set hNd hi hx (pm_get t hu hN hv hd hcd hsl) hs hf) fun D σ H q => by
    obtain ⟨a, kvs, v, e1, e2, e3, n⟩ := hn σ H q.1
    exact ⟨a, kvs, v, e1, e2, e3, q.2.1 _ _ n⟩
/-- if m[k] != []: -/
theorem hp_ifM (t : Nat) {f k : Str} {j} {as : List Stmt} {xs : List PyData} {P N : L2.St → Hp → Prop} {R : V → Hp → Prop} (hu : X.A.units + 64 < cLine) (hsx : SeqAt.shaped (.list xs) = true)
    (hn : ∀ σ H, P σ H → ∃ a kvs g, σ[t]? = some (some (.ref a)) ∧ H a = some (.dK kvs) ∧ valV kvs (.inr k) = some (.ref g) ∧ Dp X.K H (.ref g) (.list xs)) (hP : ∀ σ H H', P σ H → Ex H H' → P σ H')
    (ha : xs ≠ [] → PSs X as (tH P N R)) (hb : xs = [] → ∀ σ H, P σ H → N σ H)
    (hN : X.N[t]? = some f := by rfl) (hv : Vis X.env.scope f := by first | exact Or.inl rfl | exact Or.inr (Or.inl rfl) | exact Or.inr (Or.inr rfl)) (hd : (f == ("__debug__" : Str)) = false := by decide) (hcd : (f == ("__classdict__" : Str)) = false := by decide)
    (hsl : NoSl (.Constant (.str k) j p2) := by exact fun _ _ => rfl) :
    PS X (.If (.Compare (.Subscript (.Name f p) (.Constant (.str k) j p2) p3) [.NotEq] [.List [] p4] p5) as [] pos) (tH P N R) := by
  have tt := pt_cmpR (pos := p5) (op_neD hu) (pm_get (p := p) (p2 := p2) (pos := p3) (j := j) (k := k) t hu hN hv hd hcd hsl) (pe_lst (pos := p4) pa_nil) (nomark _)
  by_cases h : xs = []
  · refine ps_imp (ps_if tt (pss_never (X := X)) pss_nil) fun D σ H q => ?_
    obtain ⟨a, kvs, g, e1, e2, e3, dg⟩ := hn σ H q.1
    refine ⟨a, kvs, .ref g, e1, e2, e3, Nat.zero_le _, fun q' hq => ⟨.list xs, .list [], dg.up (Evl.Ex.new hq), .lst (.inl (.inl upd_same)) .nil, hsx, sh_nilL, _, rfl, ?_⟩⟩
    subst h
    exact iteF (q.2.1 _ _ (hb rfl σ _ (hP _ _ _ q.1 (Evl.Ex.new hq))))
  · refine ps_imp (ps_if tt (ha h) pss_never) fun D σ H q => ?_
    obtain ⟨a, kvs, g, e1, e2, e3, dg⟩ := hn σ H q.1
    refine ⟨a, kvs, .ref g, e1, e2, e3, Nat.zero_le _, fun q' hq => ⟨.list xs, .list [], dg.up (Evl.Ex.new hq), .lst (.inl (.inl upd_same)) .nil, hsx, sh_nilL, _, rfl, ?_⟩⟩
    have : (!PyData.eqv (.list xs) (.list [])) = true := by
      rw [eqv_nilL]
      cases xs with
      | nil => exact absurd rfl h
      | cons x l => rfl
    rw [this]
    exact iteT ⟨hP _ _ _ q.1 (Evl.Ex.new hq), q.2⟩
end
/-! ### promises of defs that draw: the state first, the rest data -/
def startM (n : Nat) (dl : List PyData) : Ds := none :: (dl.map some ++ List.replicate (n - (dl.length + 1)) none)
theorem lc_startM {w : World} {K : PySem.W.Frag} {H : Hp} {N : List Str} {v0 : V} {vs : List V} {dl : List PyData} (h : DpAll K H vs dl) (hn : dl.length + 1 ≤ N.length) : Lc w K H (L2.start N (v0 :: vs)) (startM N.length dl) := by
  have hl := dpa_len h
  refine ⟨by simp [L2.start, startM, hl], fun i d e => ?_⟩
  cases i with
  | zero => simp [startM] at e
  | succ i =>
    have e : (dl.map some ++ List.replicate (N.length - (dl.length + 1)) none)[i]? = some (some d) := e
    have hi : i < dl.length := by
      by_cases hi : i < dl.length
      · exact hi
      · rw [List.getElem?_append_right (by simpa using hi), List.getElem?_replicate] at e
        split at e <;> cases e
    rw [List.getElem?_append_left (by simpa using hi), List.getElem?_map] at e
    obtain ⟨v, a, b⟩ := dpa_get h (i := i) (d := d) (by
      cases q : dl[i]? with
      | none => rw [q] at e; cases e
      | some d' => rw [q] at e; cases e; rfl)
    refine ⟨v, ?_, .inl b⟩
    unfold L2.start
    rw [List.getElem?_append_left (by simp; omega), List.getElem?_map]
    show Option.map some ((v0 :: vs)[i + 1]?) = _
    rw [List.getElem?_cons_succ, a]
    rfl
def spM (w : World) (K : PySem.W.Frag) (nx cost : Nat) (R : List PyData → (PyData → Prop) → Prop) : Sp := fun vs H Q _ => ∃ M n vs' dl Φ, R dl Φ ∧ dl.length = nx ∧ vs = .ref M.m :: vs' ∧ DpAll K H vs' dl ∧ n + cost ≤ 100000 ∧ MSt M n H ∧
  ∀ v H' d, ExM M H H' → MSt M (n + cost) H' → Φ d → pure d = true → Dp K H' v d → Q v H'
theorem mk_okM {P : Program} {w : World} {K : PySem.W.Frag} {mg : Str → Option Value} {base : Heap} {Nm ps : List Str} {k nx cost : Nat} {R : List PyData → (PyData → Prop) → Prop} (T : Fx K mg) (i : Nat) {x : Str} {params : Arguments} {body : List Stmt} {scope : Scope}
    (hd : fn[i]? = some ⟨(x, none), x, x, params, body, scope, [], []⟩) (S : FnScope Nm ps scope) (hg : fa[i]? = some (.glo x))
    (hb : ∀ (kV doc pm : Value) (an : Option Addr) (cdv ct : Value) (us : List Value), us.length = ps.length → bindArgs (PySem.W.fnOf x x params body scope .none kV doc pm an cdv ct) ⟨us, []⟩ = Pure.pure (ps.zip us)) (hnx : ps.length = nx + 1) (hNm : nx + 1 ≤ Nm.length)
    (h : ∀ (cdv : Value) (A : Around) (outer : List Env) (s : Shared) (H : Hp) (E : XK), Room k (A.deeper (envOfC x scope s.heap.objs.size (He.ga K x) cdv)) → ∀ (dl : List PyData) (Φ : PyData → Prop) (M : Mm) (n : Nat), R dl Φ → dl.length = nx → n + cost ≤ 100000 → ∀ σ0 H0, Lc w K H0 σ0 (startM Nm.length dl) → σ0[0]? = some (some (.ref M.m)) → MSt M n H0 →
      PSs (cxOf CX0 P w K mg base Nm x scope (He.ga K x) cdv A outer s H E).nox body (tH (fun σ H => σ = σ0 ∧ H = H0) (fun _ _ => False) (fun v H' => ∃ d, ExM M H0 H' ∧ MSt M (n + cost) H' ∧ Φ d ∧ pure d = true ∧ Dp K H' v d))) : OkF P w K mg base (k + 1) x ps (spM w K nx cost R) := by
  obtain ⟨fd, F⟩ := T.says.def_ i hd
  refine ⟨⟨fd, F.ok S (fun vs H Q E h => ?_) fun cdv A outer s H vs Q E hr hsp => ?_, FunD.bindsN F hb⟩, T.glo i hg, F.kp⟩
  · obtain ⟨M, n, vs', dl, Φ, _, hn, rfl, hd, _⟩ := h
    rw [List.length_cons, dpa_len hd, hn, hnx]
  · obtain ⟨M, n, vs', dl, Φ, hRd, hn, rfl, hd, hc, ms, g⟩ := hsp
    have L := lc_startM (w := w) (N := Nm) (v0 := .ref M.m) hd (by omega)
    refine ⟨_, (h cdv A outer s H E hr dl Φ M n hRd hn hc _ H L rfl ms).nox, ⟨rfl, rfl⟩, fun _ _ f => f.elim, fun v H' o => ?_⟩
    obtain ⟨d, x1, x2, x3, x4, x5⟩ := o
    exact g v H' d x1 x2 x3 x4 x5
end G33
set_option Elab.async false
set_option linter.all false
set_option maxRecDepth 100000
set_option maxHeartbeats 4000000
namespace G33
open PySem PySem.Spec PyProof.Rows L2
theorem putK_spot (M : Mm) (k : Nat) : putK (mkv M k) (.inr "spot") (.int ((k : Int) + 1)) = mkv M (k + 1) := rfl
theorem Lc.exM {w : World} {K : PySem.W.Frag} {M : Mm} {n : Nat} {H H' : Hp} {σ : L2.St} {ds : Ds} (L : Lc w K H σ ds) (p : ∀ (i : Nat) d, ds[i]? = some (some d) → pure d = true) (x : MSt M n H) (e : ExM M H H') : Lc w K H' σ ds := L.upT p (e.exT x)
inductive PuA : Ds → Prop where
  | nil : PuA []
  | n {ds : Ds} (h : PuA ds) : PuA (none :: ds)
  | p {d : PyData} {ds : Ds} (hd : pure d = true) (h : PuA ds) : PuA (some d :: ds)
theorem PuA.get {ds : Ds} (h : PuA ds) : ∀ (i : Nat) d, ds[i]? = some (some d) → pure d = true := by
  induction h with
  | nil => intro i d e; simp at e
  | n h ih => intro i d e; cases i with
    | zero => simp at e
    | succ i => exact ih i d (by simpa using e)
  | p hd h ih => intro i d e; cases i with
    | zero => simp at e; exact e ▸ hd
    | succ i => exact ih i d (by simpa using e)
theorem dpa_li {K : PySem.W.Frag} {H : Hp} {a : Addr} {vs : List V} {xs : List PyData} (h : H a = some (.lst vs)) (hd : DpAll K H vs xs) : Dp K H (.ref a) (.list xs) := .lst (.inl (.inl h)) hd
theorem int_mod_nat (k n : Nat) : ((k : Nat) : Int) % ((n : Nat) : Int) = ((k % n : Nat) : Int) := rfl
theorem mod_draw (c : Int) {lim : Nat} (h : 1 ≤ lim) : ∃ v : Nat, v < lim ∧ PyData.int (c % (lim : Nat)) = .int (v : Nat) := by
  have h1 := Int.emod_nonneg c (show ((lim : Nat) : Int) ≠ 0 by omega)
  have h2 := Int.emod_lt_of_pos c (show 0 < ((lim : Nat) : Int) by omega)
  exact ⟨(c % (lim : Nat)).toNat, by omega, by rw [Int.toNat_of_nonneg h1]⟩
section
variable {P : Program} {w : World} {K : PySem.W.Frag} {mg : Str → Option Value} {base : Heap}
abbrev N_law_draw : List Str := ["_law_m", "_law_limit", "_law_n", "_law_lot", "_law_here", "_law_cell"]
theorem sc_law_draw : FnScope N_law_draw ["_law_m", "_law_limit"] (defScope (top 77)) := ⟨rfl, rfl, rfl, by decide +kernel, rfl, by decide +kernel, by decide +kernel⟩
def R_law_draw : List PyData → (PyData → Prop) → Prop := fun dl Φ => ∃ lim : Nat, 1 ≤ lim ∧ lim ≤ 1000000 ∧ dl = [.int (lim : Nat)] ∧ Φ = fun d => ∃ v : Nat, v < lim ∧ d = .int (v : Nat)
structure DJ (w : World) (K : PySem.W.Frag) (M : Mm) (H0 : Hp) (k : Nat) (cs gs : List Int) (lim : Nat) (o3 o4 o5 : Option PyData) (σ : L2.St) (H : Hp) : Prop where
  ex : ExM M H0 H
  ms : MSk M (k + 1) cs gs H
  m0 : σ[0]? = some (some (.ref M.m))
  lc : Lc w K H σ [none, some (.int (lim : Nat)), some (.int (k : Nat)), o3, o4, o5]
theorem DJ.up {M : Mm} {H0 H H' : Hp} {k : Nat} {cs gs : List Int} {lim : Nat} {o3 o4 o5 : Option PyData} {σ : L2.St} (x : DJ w K M H0 k cs gs lim o3 o4 o5 σ H) (e : Ex H H') : DJ w K M H0 k cs gs lim o3 o4 o5 σ H' := ⟨x.ex.trans (.of e), x.ms.up e, x.m0, x.lc.up e⟩
theorem ok_law_draw (T : Fx K mg) : OkF P w K mg base 2 "_law_draw" ["_law_m", "_law_limit"] (spM w K 1 1 R_law_draw) := by
  refine mk_okM T 40 rfl sc_law_draw rfl (fun _ _ _ _ _ _ us hl => match us, hl with | [_, _], _ => rfl) rfl (by exact lle rfl) fun cdv A outer sh Hc E hr dl Φ M n hR _ hc σ0 H0 L0 e0 ms0 => ?_
  obtain ⟨lim, h1, h2, rfl, rfl⟩ := hR
  obtain ⟨k, cs, gs, hk, y0⟩ := ms0
  have c64 := y0.c64
  have g63 := y0.g63
  refine hs_cons (M := fun σ H => H = H0 ∧ σ[0]? = some (some (.ref M.m)) ∧ Lc w K H σ [none, some (.int (lim : Nat)), some (.int (k : Nat)), none, none, none]) (hp_asgM 2 0 hr.units sc_law_draw.nd fun σ H q => ?_) ?_
  · obtain ⟨rfl, rfl⟩ := q
    exact ⟨M.m, mkv M k, .int (k : Nat), e0, y0.m, rfl, rfl, set_ne (by decide) e0, L0.set 2 (.int _)⟩
  refine hs_cons (M := DJ w K M H0 k cs gs lim none none none) (hp_putM 0 (ds := [none, some (.int (lim : Nat)), some (.int (k : Nat)), none, none, none]) (d := .int ((k : Int) + 1)) hr.units (pd_add (pd_name 2) pd_int) (fun σ H q => q.2.2) fun σ H q => ?_) ?_
  · obtain ⟨rfl, e1, L1⟩ := q
    refine ⟨M.m, mkv M k, e1, y0.m, by exact Evl.sz_lt (by exact lle rfl), fun v H1 x1 dv => ?_⟩
    cases dv
    rw [putK_spot]
    have y1 := y0.up x1
    have em : ExM M H1 (upd H1 M.m (.dK (mkv M (k + 1)))) := fun b o n1 _ h => by rw [upd_ne n1]; exact h
    refine ⟨(ExM.of x1).trans em, ⟨upd_same, by rw [upd_ne (Ne.symm y1.mc)]; exact y1.c, by rw [upd_ne (Ne.symm y1.mg)]; exact y1.g, c64, g63, y1.cg⟩, e1, ?_⟩
    exact (L1.up x1).exM (PuA.get (.n (.p (pure_int _) (.p (pure_int _) (.n (.n (.n .nil))))))) ⟨k, cs, gs, Nat.le_refl _, y1⟩ em
  refine hs_cons (M := fun σ H => ∃ o3 o4 o5, DJ w K M H0 k cs gs lim o3 o4 o5 σ H) ?_ ?_
  · -- the great ones
    have hgs : gs = [] ∨ gs ≠ [] := by cases gs <;> simp
    have hs1 : SeqAt.shaped (.list (gs.map PyData.int)) = true := (shp_ints gs (n := 1)).ok (by decide)
    refine hp_ifM (xs := gs.map .int) 0 hr.units hs1 (fun σ H q => ?_) (fun σ H H' q e => ?_) (fun hne => ?_) (fun _ σ H q => ?_)
    · exact ⟨M.m, mkv M (k + 1), M.g, q.m0, q.ms.m, rfl, dpa_li q.ms.g (ints_dpa gs)⟩
    · exact q.up e
    · have hlen : 0 < gs.length := by
        cases gs with
        | nil => exact absurd rfl hne
        | cons a l => simp
      have hj : k % gs.length < gs.length := Nat.mod_lt _ hlen
      refine hs_cons (M := fun σ H => DJ w K M H0 k cs gs lim (some (.list (gs.map .int))) none none σ H ∧ σ[3]? = some (some (.ref M.g))) (hp_asgM 3 0 hr.units sc_law_draw.nd fun σ H q => ?_) ?_
      · exact ⟨M.m, mkv M (k + 1), .ref M.g, q.m0, q.ms.m, rfl, ⟨q.ex, q.ms, set_ne (by decide) q.m0, q.lc.set 3 (dpa_li q.ms.g (ints_dpa gs))⟩, set_eq (by rw [q.lc.1]; exact lle rfl)⟩
      refine hs_cons (M := fun σ H => DJ w K M H0 k cs gs lim (some (.list (gs.map .int))) (some (.int (k % gs.length : Nat))) none σ H ∧ σ[3]? = some (some (.ref M.g))) (hs_asg (ds := [none, some (.int (lim : Nat)), some (.int (k : Nat)), some (.list (gs.map .int)), none, none]) 4 sc_law_draw.nd (pd_eq (pd_mod (pd_toInt T.f_int (pd_name 2)) (pd_lenL T.f_len (pd_name 3)) (by rw [List.length_map]; omega)) (by rw [List.length_map, int_mod_nat])) (fun σ H q => q.1.lc) fun σ H v H' q e dv => ?_) ?_
      · have y := q.1.up e
        exact ⟨⟨y.ex, y.ms, set_ne (by decide) y.m0, y.lc.set 4 dv⟩, set_ne (by decide) q.2⟩
      refine hs_cons (M := fun σ H => DJ w K M H0 k cs gs lim (some (.list (gs.map .int))) (some (.int (k % gs.length : Nat))) (some (.int (gs.getD (k % gs.length) 0))) σ H ∧ σ[3]? = some (some (.ref M.g))) (hs_asg (ds := [none, some (.int (lim : Nat)), some (.int (k : Nat)), some (.list (gs.map .int)), some (.int (k % gs.length : Nat)), none]) 5 sc_law_draw.nd (pd_ixL (d := .int (gs.getD (k % gs.length) 0)) (pd_name 3) (pd_name 4) (atI_ints gs _ hj)) (fun σ H q => q.1.lc) fun σ H v H' q e dv => ?_) ?_
      · have y := q.1.up e
        exact ⟨⟨y.ex, y.ms, set_ne (by decide) y.m0, y.lc.set 5 dv⟩, set_ne (by decide) q.2⟩
      refine hs_one (hs_if (ds := [none, some (.int (lim : Nat)), some (.int (k : Nat)), some (.list (gs.map .int)), some (.int (k % gs.length : Nat)), some (.int (gs.getD (k % gs.length) 0))]) (pt_gt (pd_name 5) pd_int) (fun σ H q => q.1.lc) (fun σ H H' q e => ⟨q.1.up e, q.2⟩) (fun hb => ?_) (fun hb => hs_conseq hs_nil (fun _ _ h => h) fun σ H q => ⟨_, _, _, q.1⟩))
      refine hs_cons (M := fun σ H => ∃ gs', DJ w K M H0 k cs gs' lim none (some (.int (k % gs.length : Nat))) (some (.int (gs.getD (k % gs.length) 0))) σ H) (hp_setL 3 (k := k % gs.length) (d := .int (gs.getD (k % gs.length) 0 / (lim : Nat))) (ds := [none, some (.int (lim : Nat)), some (.int (k : Nat)), some (.list (gs.map .int)), some (.int (k % gs.length : Nat)), some (.int (gs.getD (k % gs.length) 0))]) (pd_name 4) (pd_fdiv (pd_name 5) (pd_name 1) (by unfold CDiv; omega)) (fun σ H q => q.1.lc) fun σ H q => ?_) ?_
      · refine ⟨M.g, gs.map .int, q.2, q.1.ms.g, by rw [List.length_map]; exact hj, fun v H1 x1 dv => ?_⟩
        cases dv
        have y := q.1.up x1
        have em : ExM M H1 (upd H1 M.g (.lst ((gs.map V.int).set (k % gs.length) (.int (gs.getD (k % gs.length) 0 / (lim : Nat)))))) := fun b o _ n2 h => by rw [upd_ne n2]; exact h
        have eL : (gs.map V.int).set (k % gs.length) (.int (gs.getD (k % gs.length) 0 / (lim : Nat))) = (gs.set (k % gs.length) (gs.getD (k % gs.length) 0 / (lim : Nat))).map .int := by rw [List.map_set]
        refine ⟨gs.set (k % gs.length) (gs.getD (k % gs.length) 0 / (lim : Nat)), y.ex.trans em, ⟨by rw [upd_ne y.ms.mg]; exact y.ms.m, by rw [upd_ne y.ms.cg]; exact y.ms.c, by rw [eL]; exact upd_same, c64, by rw [List.length_set]; exact g63, y.ms.cg⟩, y.m0, ?_⟩
        exact (SubD.lc (.same (.same (.same (.skip (.same (.same .nil)))))) y.lc).exM (PuA.get (.n (.p (pure_int _) (.p (pure_int _) (.n (.p (pure_int _) (.p (pure_int _) .nil))))))) ⟨k + 1, cs, gs, Nat.le_refl _, y.ms⟩ em
      · refine hs_ex fun gs' => hs_one (hs_ret (ds := [none, some (.int (lim : Nat)), some (.int (k : Nat)), none, some (.int (k % gs.length : Nat)), some (.int (gs.getD (k % gs.length) 0))]) (pd_mod (pd_toInt T.f_int (pd_name 5)) (pd_name 1) (by omega)) (fun σ H q => q.lc) fun σ H v H' q e dv => ?_)
        have y := q.up e
        exact ⟨_, y.ex, ⟨k + 1, cs, gs', by omega, y.ms⟩, mod_draw _ h1, pure_int _, dv⟩
    · exact ⟨none, none, none, q⟩
  · refine hs_cons (M := fun σ H => DJ w K M H0 k cs gs lim (some (.list (cs.map .int))) none none σ H) (hp_asgM 3 0 hr.units sc_law_draw.nd fun σ H q => ?_) ?_
    · obtain ⟨o3, o4, o5, q⟩ := q
      exact ⟨M.m, mkv M (k + 1), .ref M.c, q.m0, q.ms.m, rfl, ⟨q.ex, q.ms, set_ne (by decide) q.m0, (SubD.lc (a := [none, some (.int (lim : Nat)), some (.int (k : Nat)), none, none, none]) (.same (.same (.same (.skip (.skip (.skip .nil)))))) q.lc).set 3 (dpa_li q.ms.c (ints_dpa cs))⟩⟩
    refine hs_one (hs_ret (ds := [none, some (.int (lim : Nat)), some (.int (k : Nat)), some (.list (cs.map .int)), none, none]) (pd_mod (pd_toInt T.f_int (pd_fn (ds := [none, some (.int (lim : Nat)), some (.int (k : Nat)), some (.list (cs.map .int)), none, none]) (ok_law_mixed T) hr ⟨mixed (cs.getD (k % 64) 0 + 31 * ((k / 64 : Nat) : Int)) (k : Nat), (k : Nat) + 7, by omega, by omega, rfl, rfl⟩ (ad_cons (pd_fn (ds := [none, some (.int (lim : Nat)), some (.int (k : Nat)), some (.list (cs.map .int)), none, none]) (ok_law_mixed T) hr ⟨cs.getD (k % 64) 0 + 31 * ((k / 64 : Nat) : Int), (k : Nat), by omega, by omega, rfl, rfl⟩ (ad_cons (pd_add (ds := [none, some (.int (lim : Nat)), some (.int (k : Nat)), some (.list (cs.map .int)), none, none]) (pd_ixL (ds := [none, some (.int (lim : Nat)), some (.int (k : Nat)), some (.list (cs.map .int)), none, none]) (d := .int (cs.getD (k % 64) 0)) (pd_name 3) (pd_mod (ds := [none, some (.int (lim : Nat)), some (.int (k : Nat)), some (.list (cs.map .int)), none, none]) (pd_toInt T.f_int (pd_name 2)) pd_int (by decide)) (atI_ints cs (k % 64) (by omega))) (pd_mul (ds := [none, some (.int (lim : Nat)), some (.int (k : Nat)), some (.list (cs.map .int)), none, none]) pd_int (pd_fdiv (ds := [none, some (.int (lim : Nat)), some (.int (k : Nat)), some (.list (cs.map .int)), none, none]) (pd_name 2) pd_int (by unfold CDiv; decide)) (.inl (by decide)))) (ad_cons (pd_name 2) ad_nil))) (ad_cons (pd_add (ds := [none, some (.int (lim : Nat)), some (.int (k : Nat)), some (.list (cs.map .int)), none, none]) (pd_name 2) pd_int) ad_nil)))) (pd_name 1) (by omega)) (fun σ H q => q.lc) fun σ H v H' q e dv => ?_)
    have y := q.up e
    exact ⟨_, y.ex, ⟨k + 1, cs, gs, by omega, y.ms⟩, mod_draw _ h1, pure_int _, dv⟩
end
end G33
set_option Elab.async false
set_option linter.all false
set_option maxRecDepth 100000
set_option maxHeartbeats 4000000
namespace G33
open PySem PySem.Spec PyProof.Rows L2
/-! ### expressions that may draw -/
structure LM (w : World) (K : PySem.W.Frag) (M : Mm) (t n : Nat) (ds : Ds) (σ : L2.St) (H : Hp) : Prop where
  m0 : σ[t]? = some (some (.ref M.m))
  ms : MSt M n H
  lc : Lc w K H σ ds
abbrev Pd := PyData → Prop
def Fit : List Pd → List PyData → Prop
  | [], [] => True
  | Φ :: Φs, d :: ds => Φ d ∧ Fit Φs ds
  | _, _ => False
def IntB (n : Nat) : Pd := fun d => ∃ v : Nat, v < n ∧ d = .int (v : Nat)
def teM (w : World) (K : PySem.W.Frag) (M : Mm) (t : Nat) (ds : Ds) (n n' : Nat) (Φ : Pd) : TE := fun σ H Q => LM w K M t n ds σ H ∧ ∀ v H' d, ExM M H H' → MSt M n' H' → Φ d → pure d = true → Dp K H' v d → Q v H'
def taM (w : World) (K : PySem.W.Frag) (M : Mm) (t : Nat) (ds : Ds) (n n' : Nat) (Φs : List Pd) : TA := fun σ H Q => LM w K M t n ds σ H ∧ ∀ vs H' dl, ExM M H H' → MSt M n' H' → Fit Φs dl → pureAll dl = true → DpAll K H' vs dl → Q vs H'
section
variable {w : World} {K : PySem.W.Frag} {M : Mm} {t n n1 n2 n' : Nat} {ds : Ds} {σ : L2.St} {H H' : Hp}
theorem LM.up (x : LM w K M t n ds σ H) (e : Ex H H') : LM w K M t n ds σ H' := ⟨x.m0, x.ms.up e, x.lc.up e⟩
theorem LM.go (x : LM w K M t n ds σ H) (p : PuA ds) (e : ExM M H H') (m : MSt M n' H') : LM w K M t n' ds σ H' := ⟨x.m0, m, x.lc.exM p.get x.ms e⟩
theorem LM.le (x : LM w K M t n ds σ H) (h : n ≤ n') : LM w K M t n' ds σ H := ⟨x.m0, x.ms.le h, x.lc⟩
theorem LM.set {i : Nat} {v : V} {d : PyData} (x : LM w K M t n ds σ H) (h : i ≠ t) (dv : Dp K H v d) : LM w K M t n (ds.set i (some d)) (σ.set i (some v)) H := ⟨set_ne h x.m0, x.ms, x.lc.set i dv⟩
theorem LM.sub {ds' : Ds} (x : LM w K M t n ds σ H) (s : SubD ds' ds) : LM w K M t n ds' σ H := ⟨x.m0, x.ms, s.lc x.lc⟩
theorem Fit.len : ∀ {Φs : List Pd} {dl : List PyData}, Fit Φs dl → Φs.length = dl.length
  | [], [], _ => rfl
  | _ :: Φs, _ :: dl, h => congrArg (· + 1) h.2.len
  | [], _ :: _, h => h.elim
  | _ :: _, [], h => h.elim
theorem Fit.at : ∀ {Φs : List Pd} {dl : List PyData} {i : Nat} {d : PyData}, Fit Φs dl → dl[i]? = some d → ∃ Φ, Φs[i]? = some Φ ∧ Φ d
  | [], [], i, d, _, h => by simp at h
  | Φ :: _, _ :: _, 0, d, f, h => by simp at h; exact ⟨Φ, rfl, h ▸ f.1⟩
  | _ :: Φs, _ :: dl, i + 1, d, f, h => by simpa using f.2.at (by simpa using h)
  | [], _ :: _, _, _, f, _ => f.elim
  | _ :: _, [], _, _, f, _ => f.elim
theorem pureAll_at : ∀ {dl : List PyData} {i : Nat} {d : PyData}, pureAll dl = true → dl[i]? = some d → pure d = true
  | [], i, d, _, h => by simp at h
  | a :: dl, i, d, p, h => by
    have p' : pure a = true ∧ pureAll dl = true := by simpa [pureAll] using p
    cases i with
    | zero => simp at h; exact h ▸ p'.1
    | succ i => exact pureAll_at p'.2 (by simpa using h)
end
section
variable {X : Cx} {M : Mm} {t n n1 n2 n' : Nat} {ds : Ds} {d : PyData} {Φ Φ1 Φ2 Ψ : Pd} {Φs : List Pd} {a b c e i : Expr} {es : List Expr} {pos pos' p p1 : Pos} {x f : Str} {rest as : List Stmt}
theorem em_d (he : PE X e (teD X.w X.K ds d)) (hp : pure d = true) : PE X e (teM X.w X.K M t ds n n (· = d)) := pe_imp he fun σ H Q q => ⟨q.1.lc, fun v H' e dv => q.2 v H' d (.of e) (q.1.ms.up e) rfl hp dv⟩
theorem em_imp (he : PE X e (teM X.w X.K M t ds n n1 Φ)) (h : ∀ d, Φ d → Ψ d) : PE X e (teM X.w X.K M t ds n n1 Ψ) := pe_imp he fun σ H Q q => ⟨q.1, fun v H' d e m hd hp dv => q.2 v H' d e m (h d hd) hp dv⟩
theorem em_le (he : PE X e (teM X.w X.K M t ds n n1 Φ)) (h : n1 ≤ n2) : PE X e (teM X.w X.K M t ds n n2 Φ) := pe_imp he fun σ H Q q => ⟨q.1, fun v H' d e m hd hp dv => q.2 v H' d e (m.le h) hd hp dv⟩
theorem em_call {k k' nx cost : Nat} {ps : List Str} {R : List PyData → Pd → Prop} {dl : List PyData} (t : Nat) (F : OkF X.prog X.w X.K X.mg X.base k x ps (spM X.w X.K nx cost R)) (hr : Room k' X.A) (hR : R dl Φ) (ha : PA X es (taD X.w X.K ds dl)) (hc : n + cost ≤ 100000) (hn : dl.length = nx := by rfl) (hk : k ≤ k' := by decide)
    (hN : X.N[t]? = some f := by rfl) (hv : Vis X.env.scope f := by first | exact Or.inl rfl | exact Or.inr (Or.inl rfl) | exact Or.inr (Or.inr rfl)) (hd : (f == ("__debug__" : Str)) = false := by decide) (hcd : (f == ("__classdict__" : Str)) = false := by decide)
    (hg : Gl X x := by rfl) (hdb : (x == ("__debug__" : Str)) = false := by decide) (he : starEach (.Name f p1 :: es) X.env = (false, eval (.Name f p1) X.env) :: starEach es X.env := by rfl) (hpl : (backTo pos (starEach es X.env)).any (·.1) = false := by rfl) :
    PE X (.Call (.Name x p) (.Name f p1 :: es) [] pos) (teM X.w X.K M t ds n (n + cost) Φ) := by
  obtain ⟨fd, F1, b⟩ := F.ex
  exact pe_imp (pe_call F1 (hr.mono hk) hg F.glo F.kp b .nil pass0 (pa_cons (pe_var hN hv hd hcd) ha he) hdb he hpl) fun σ H Q q => ⟨_, q.1.m0, q.1.lc, fun vs H1 e1 h1 => ⟨M, n, vs, dl, Φ, hR, hn, by rw [List.append_nil], h1, hc, q.1.ms.up e1, fun v H' d e m hΦ hp dv => q.2 v H' d ((ExM.of e1).trans e) m hΦ hp dv⟩⟩
theorem am_nil : PA X [] (taM X.w X.K M t ds n n []) := pa_imp pa_nil fun σ H Q q => q.2 [] H [] (.refl M H) q.1.ms trivial rfl .nil
theorem am_cons (hp : PuA ds) (ha : PE X e (teM X.w X.K M t ds n n1 Φ)) (hr : PA X es (taM X.w X.K M t ds n1 n2 Φs)) (hs : starEach (e :: es) X.env = (false, eval e X.env) :: starEach es X.env := by rfl) : PA X (e :: es) (taM X.w X.K M t ds n n2 (Φ :: Φs)) :=
  pa_imp (pa_cons ha hr hs) fun σ H Q q => ⟨q.1, fun v H1 d e1 m1 h1 p1 d1 => ⟨q.1.go hp e1 m1, fun vs H2 dl e2 m2 h2 p2 d2 => q.2 (v :: vs) H2 (d :: dl) (e1.trans e2) m2 ⟨h1, h2⟩ (by simp [pureAll, p1, p2]) (.cons (d1.upT p1 (e2.exT m1)) d2)⟩⟩
theorem em_tup {k} (h : PA X es (taM X.w X.K M t ds n n' Φs)) (hl : Φs.length ≤ 100000) : PE X (.Tuple es k pos) (teM X.w X.K M t ds n n' (fun d => ∃ dl, d = .tuple dl ∧ Fit Φs dl)) :=
  pe_imp (pe_tup h) fun σ H Q q => ⟨q.1, fun vs H1 dl e1 m1 h1 p1 d1 => ⟨by rw [dpa_len d1, ← h1.len]; exact Evl.sz_of hl, fun p hp => q.2 _ _ (.tuple dl) (e1.trans (.of (Evl.Ex.new hp))) (m1.up (Evl.Ex.new hp)) ⟨dl, rfl, h1⟩ (by simpa [pure] using p1) (.tup (.inl (.inl upd_same)) (d1.up (Evl.Ex.new hp)))⟩⟩
/-- [..][i] -/
theorem em_pick (hp : PuA ds) (h : PA X es (taM X.w X.K M t ds n n1 Φs)) (hi : PE X i (teM X.w X.K M t ds n1 n2 (IntB Φs.length))) (hl : Φs.length ≤ 100000) (hs : PlainIx i := by exact fun _ _ => rfl) : PE X (.Subscript (.List es p) i pos) (teM X.w X.K M t ds n n2 (fun d => ∃ (k : Nat) (Φ : Pd), Φs[k]? = some Φ ∧ Φ d)) :=
  pe_imp (pe_ix ix_list (pe_lst h) hi hs) fun σ H Q q => ⟨q.1, fun vs H1 dl e1 m1 h1 p1 d1 => ⟨by rw [dpa_len d1, ← h1.len]; exact Evl.sz_of hl, fun r hr => ⟨(q.1.go hp e1 m1).up (Evl.Ex.new hr), fun v H2 d e2 m2 hi2 _ dv => by
    obtain ⟨j, hj, rfl⟩ := hi2
    cases dv
    have hjl : j < dl.length := by rw [← h1.len]; exact hj
    have hd := List.getElem?_eq_getElem hjl
    obtain ⟨Φ, hΦ, hh⟩ := h1.at hd
    have pd := pureAll_at p1 hd
    obtain ⟨u, hu, du⟩ := dpa_get d1 hd
    have mo := m1
    obtain ⟨k0, cs, gs, _, y⟩ := mo
    have n1' : r ≠ M.m := fun e => by rw [e, y.m] at hr; cases hr
    have n2' : r ≠ M.g := fun e => by rw [e, y.g] at hr; cases hr
    have hvl : j < vs.length := by rw [dpa_len d1]; exact hjl
    refine ⟨r, vs, (j : Int), u, rfl, rfl, .inl (.inl (e2 r _ n1' n2' upd_same)), by rw [atI_nat _ _ hvl]; exact hu, q.2 u H2 _ ((e1.trans (.of (Evl.Ex.new hr))).trans e2) m2 ⟨j, Φ, hΦ, hh⟩ pd ?_⟩
    exact (du.up (Evl.Ex.new hr)).upT pd (e2.exT (m1.up (Evl.Ex.new hr)))⟩⟩⟩
theorem em_add (hp : PuA ds) (ha : PE X a (teM X.w X.K M t ds n n1 Φ1)) (hb : PE X b (teM X.w X.K M t ds n1 n2 Φ2)) (h1 : ∀ d, Φ1 d → ∃ i, d = .int i) (h2 : ∀ d, Φ2 d → ∃ i, d = .int i) : PE X (.BinOp a .Add b pos) (teM X.w X.K M t ds n n2 (fun d => ∃ i j, d = .int (i + j) ∧ Φ1 (.int i) ∧ Φ2 (.int j))) :=
  pe_imp (pe_op op_add ha hb) fun σ H Q q => ⟨q.1, fun v H1 d e1 m1 g1 p1 d1 => ⟨q.1.go hp e1 m1, fun u H2 d' e2 m2 g2 p2 d2 => by
    obtain ⟨i, rfl⟩ := h1 _ g1
    obtain ⟨j, rfl⟩ := h2 _ g2
    cases d1
    cases d2
    exact ⟨i, j, rfl, rfl, q.2 _ H2 (.int (i + j)) (e1.trans e2) m2 ⟨i, j, rfl, g1, g2⟩ (pure_int _) (.int _)⟩⟩⟩
theorem em_if {k : Bool} (hc : PT X c (ttD X.w X.K ds k)) (ha : k = true → PE X a (teM X.w X.K M t ds n n1 Φ)) (hb : k = false → PE X b (teM X.w X.K M t ds n n1 Φ)) : PE X (.IfExp c a b pos) (teM X.w X.K M t ds n n1 Φ) := by
  cases k with
  | true => exact pe_imp (pe_ifExp hc (ha rfl) pe_F) fun σ H Q q => ⟨q.1.lc, fun H1 e1 => iteT ⟨q.1.up e1, fun v H' d e m g p dv => q.2 v H' d ((ExM.of e1).trans e) m g p dv⟩⟩
  | false => exact pe_imp (pe_ifExp hc pe_F (hb rfl)) fun σ H Q q => ⟨q.1.lc, fun H1 e1 => iteF ⟨q.1.up e1, fun v H' d e m g p dv => q.2 v H' d ((ExM.of e1).trans e) m g p dv⟩⟩
/-! straight code that draws -/
def tRM (w : World) (K : PySem.W.Frag) (M : Mm) (t : Nat) (ds : Ds) (n n' : Nat) (Φ : Pd) : TS := fun D σ H => LM w K M t n ds σ H ∧ ∀ v H' d, ExM M H H' → MSt M n' H' → Φ d → pure d = true → Dp K H' v d → D.rt v H'
theorem sm_ret (he : PE X e (teM X.w X.K M t ds n n' Φ)) : PSs X [.Return (some e) pos] (tRM X.w X.K M t ds n n' Φ) := pss_imp (pss_one (ps_ret he)) fun D σ H q => q
theorem sm_asg (i : Nat) (hit : i ≠ t) (hp : PuA ds) (hN : X.N.Nodup) (he : PE X e (teM X.w X.K M t ds n n1 Ψ)) (hr : ∀ d, Ψ d → pure d = true → PSs X rest (tRM X.w X.K M t (ds.set i (some d)) n1 n' Φ)) (hi : X.N[i]? = some x := by rfl) (hx : Loc X.env.scope x := by first | exact .inl rfl | exact .inr rfl)
    (hs : swapsWith e (some (.Name x pos')) pos.line X.env = Pure.pure false := by rfl) (hf : X.fn x = true ∨ X.env.scope.names.lookup x = some .local := by first | exact .inl rfl | exact .inr rfl) : PSs X (.Assign [.Name x pos'] e pos :: rest) (tRM X.w X.K M t ds n n' Φ) := by
  have hU : PSs X rest (fun D σ H => ∃ d, Ψ d ∧ pure d = true ∧ tRM X.w X.K M t (ds.set i (some d)) n1 n' Φ D σ H) := ⟨fun pins s σ H D I ⟨d, h1, h2, q⟩ => (hr d h1 h2).run pins s σ H D I q⟩
  exact pss_imp (pss_cons (ps_set hN hi hx he hs hf) hU) fun D σ H q => ⟨q.1, fun v H1 d e1 m1 h1 p1 d1 => ⟨d, h1, p1, (q.1.go hp e1 m1).set hit d1, fun u H2 d2 e2 m2 h2 p2 dv2 => q.2 u H2 d2 (e1.trans e2) m2 h2 p2 dv2⟩⟩
/-- if c: x = e -/
theorem sm_ifasg {k : Bool} (i : Nat) (hit : i ≠ t) (hp : PuA ds) (hN : X.N.Nodup) (hc : PT X c (ttD X.w X.K ds k)) (hle : n ≤ n1) (he : k = true → PE X e (teM X.w X.K M t ds n n1 Ψ)) (hr : k = true → ∀ d, Ψ d → pure d = true → PSs X rest (tRM X.w X.K M t (ds.set i (some d)) n1 n' Φ)) (hr2 : k = false → PSs X rest (tRM X.w X.K M t ds n1 n' Φ)) (hi : X.N[i]? = some x := by rfl) (hx : Loc X.env.scope x := by first | exact .inl rfl | exact .inr rfl)
    (hs : swapsWith e (some (.Name x pos')) pos.line X.env = Pure.pure false := by rfl) (hf : X.fn x = true ∨ X.env.scope.names.lookup x = some .local := by first | exact .inl rfl | exact .inr rfl) : PSs X (.If c [.Assign [.Name x pos'] e pos] [] p :: rest) (tRM X.w X.K M t ds n n' Φ) := by
  cases k with
  | true =>
    have hU : PSs X rest (fun D σ H => ∃ d, Ψ d ∧ pure d = true ∧ tRM X.w X.K M t (ds.set i (some d)) n1 n' Φ D σ H) := ⟨fun pins s σ H D I ⟨d, h1, h2, q⟩ => (hr rfl d h1 h2).run pins s σ H D I q⟩
    exact pss_imp (pss_cons (ps_if hc (pss_one (ps_set hN hi hx (he rfl) hs hf)) pss_nil) hU) fun D σ H q => ⟨q.1.lc, fun H0 e0 => iteT ⟨q.1.up e0, fun v H1 d e1 m1 h1 p1 d1 => ⟨d, h1, p1, ((q.1.up e0).go hp e1 m1).set hit d1, fun u H2 d2 e2 m2 h2 p2 dv2 => q.2 u H2 d2 (((ExM.of e0).trans e1).trans e2) m2 h2 p2 dv2⟩⟩⟩
  | false => exact pss_imp (pss_cons (ps_if hc pss_never pss_nil) (hr2 rfl)) fun D σ H q => ⟨q.1.lc, fun H0 e0 => iteF ⟨(q.1.up e0).le hle, fun u H2 d2 e2 m2 h2 p2 dv2 => q.2 u H2 d2 ((ExM.of e0).trans e2) m2 h2 p2 dv2⟩⟩
/-- the rest by the Hoare rules -/
theorem sm_h {sts : List Stmt} (h : ∀ σ0 H0, LM X.w X.K M t n ds σ0 H0 → PSs X sts (tH (fun σ H => σ = σ0 ∧ H = H0) (fun _ _ => False) (fun v H' => ∃ d, ExM M H0 H' ∧ MSt M n' H' ∧ Φ d ∧ pure d = true ∧ Dp X.K H' v d))) : PSs X sts (tRM X.w X.K M t ds n n' Φ) :=
  ⟨fun pins s σ H D I q => (h σ H q.1).run pins s σ H D I ⟨⟨rfl, rfl⟩, fun _ _ f => f.elim, fun v H' o => by obtain ⟨d, x1, x2, x3, x4, x5⟩ := o; exact q.2 v H' d x1 x2 x3 x4 x5⟩⟩
end
theorem mk_okR {P : Program} {w : World} {K : PySem.W.Frag} {mg : Str → Option Value} {base : Heap} {Nm ps : List Str} {k nx cost : Nat} {R : List PyData → Pd → Prop} (T : Fx K mg) (i : Nat) {x : Str} {params : Arguments} {body : List Stmt} {scope : Scope}
    (hd : fn[i]? = some ⟨(x, none), x, x, params, body, scope, [], []⟩) (S : FnScope Nm ps scope) (hg : fa[i]? = some (.glo x))
    (hb : ∀ (kV doc pm : Value) (an : Option Addr) (cdv ct : Value) (us : List Value), us.length = ps.length → bindArgs (PySem.W.fnOf x x params body scope .none kV doc pm an cdv ct) ⟨us, []⟩ = Pure.pure (ps.zip us)) (hnx : ps.length = nx + 1) (hNm : nx + 1 ≤ Nm.length)
    (h : ∀ (cdv : Value) (A : Around) (outer : List Env) (s : Shared) (H : Hp) (E : XK), Room k (A.deeper (envOfC x scope s.heap.objs.size (He.ga K x) cdv)) → ∀ (dl : List PyData) (Φ : Pd) (M : Mm) (n : Nat), R dl Φ → dl.length = nx → n + cost ≤ 100000 →
      PSs (cxOf CX0 P w K mg base Nm x scope (He.ga K x) cdv A outer s H E).nox body (tRM w K M 0 (startM Nm.length dl) n (n + cost) Φ)) : OkF P w K mg base (k + 1) x ps (spM w K nx cost R) :=
  mk_okM T i hd S hg hb hnx hNm fun cdv A outer s Hc E hr dl Φ M n hR hl hc σ0 H0 L0 e0 ms0 =>
    ⟨fun pins s' σ H D I q => (h cdv A outer s Hc E hr dl Φ M n hR hl hc).run pins s' σ H D I (by
      obtain ⟨⟨rfl, rfl⟩, _, q2⟩ := q
      exact ⟨⟨e0, ms0, L0⟩, fun v H' d x1 x2 x3 x4 x5 => q2 v H' ⟨d, x1, x2, x3, x4, x5⟩⟩)⟩
end G33
set_option Elab.async false
set_option linter.all false
set_option maxRecDepth 100000
set_option maxHeartbeats 4000000
namespace G33
open PySem PySem.Spec PyProof.Rows L2
/-! ### loops and comprehensions that draw -/
theorem hp_forK {X : Cx} {ι κ : Type} {wi : TI} {iter : Expr} {body : List Stmt} {pos : Pos} {P N : L2.St → Hp → Prop} {R : V → Hp → Prop} {x : Str} {px : Pos} (t : Nat) (items : κ → List ι) (en : ι → PyData) (I : κ → Nat → L2.St → Hp → Prop) (B : κ → Nat → ι → L2.St → Hp → Prop)
    (hx : ∀ e o, ¬ X.xe e o) (hc : X.calm = true) (hN : X.N.Nodup) (hi : PI X (.Name x px) iter wi)
    (hW : ∀ σ H (R' : It → Hp → Prop), P σ H → (∀ J v H', (∀ i σ1 H1, I v i σ1 H1 → Walks X.K J H1 ((items v).map en)) → I v 0 σ H' → R' J H') → wi σ H R') (hn : ∀ v σ H, I v (items v).length σ H → N σ H)
    (hgB : ∀ v i a σ H u H2, (items v)[i]? = some a → I v i σ H → Ex H H2 → Dp X.K H2 u (en a) → B v i a (σ.set t (some u)) H2)
    (hb : ∀ v i a, (items v)[i]? = some a → PSs X body (tH (B v i a) (I v (i + 1)) R)) (ht : X.N[t]? = some x := by rfl) (hl : Loc X.env.scope x := by first | exact .inl rfl | exact .inr rfl) (hf : X.fn x = true ∨ X.env.scope.names.lookup x = some .local := by first | exact .inl rfl | exact .inr rfl)
    (hs : ∀ z, foldedSetIterable iter X.env z = Pure.pure z := by intro _; rfl) : PS X (.For (.Name x px) iter body [] pos) (tH P N R) := by
  have hp : PassesOwn (model X.prog X.w) X.A X.env X.xe := fun e o z => absurd z (hx e o)
  refine ps_imp (ps_for hp hc hi (pg_name hN ht hl hf) (hf_of (α := κ × Nat × ι) (ok := fun a => (items a.1)[a.2.1]? = some a.2.2) (B := fun a => B a.1 a.2.1 a.2.2) (M := fun a => I a.1 (a.2.1 + 1)) (R := R) fun a k => hb a.1 a.2.1 a.2.2 k) hs) fun D σ H q => ?_
  refine hW σ H _ q.1 fun J v H' wk i0 => ⟨fun i m σ1 H1 => m = (items v).length - i ∧ i ≤ (items v).length ∧ I v i σ1 H1, ⟨(items v).length, rfl, Nat.zero_le _, i0⟩, ?_⟩
  rintro i m σ1 H2 ⟨rfl, hi', i1⟩
  obtain ⟨wg, ws⟩ := wk i σ1 H2 i1
  by_cases hlt : i < (items v).length
  · refine .inr ?_
    have hit : (items v)[i]? = some (items v)[i] := List.getElem?_eq_getElem hlt
    obtain ⟨g1, g2⟩ := wg i (en (items v)[i]) (by rw [List.getElem?_map, hit]; rfl)
    refine ⟨g1, fun σ' H' => I v (i + 1) σ' H', fun σ' H' z => ⟨(items v).length - (i + 1), by omega, rfl, by omega, z⟩, fun u H3 y => ?_⟩
    obtain ⟨e2, d2⟩ := g2 u H3 y
    exact ⟨(v, i, (items v)[i]), hit, hgB v i (items v)[i] σ1 H2 u H3 hit i1 e2 d2, fun _ _ z => z, q.2.2⟩
  · have ei : i = (items v).length := by omega
    subst ei
    rw [List.length_map] at ws
    exact .inl ⟨ws, q.2.1 _ _ (hn _ _ _ i1)⟩
theorem walks_rangeN {K : PySem.W.Frag} {H : Hp} (k : Nat) : Walks K (Itr 0 ((k : Nat) : Int).toNat) H ((List.range k).map fun i => .int (i : Nat)) := by
  have h := walks_range (K := K) (H := H) (i := 0) (j := (k : Nat))
  rw [Int.sub_zero, rgD_nat0, List.map_map] at h
  exact h
section
variable {X : Cx} {M : Mm} {t n n1 n2 n' : Nat} {ds : Ds} {Φ Ψ : Pd} {a e : Expr} {pos p px posF : Pos} {x : Str}
/-- for x in range(e): -/
theorem hm_forR {P N : L2.St → Hp → Prop} {R : V → Hp → Prop} {body : List Stmt} {hm : X.mg "range" = none} (tx B : Nat) (I : Nat → Nat → L2.St → Hp → Prop) (B' : Nat → Nat → L2.St → Hp → Prop) (hx : ∀ e o, ¬ X.xe e o) (hc : X.calm = true) (hN : X.N.Nodup) (hp : PuA ds) (ha : PE X a (teM X.w X.K M t ds n n1 Ψ)) (hΨ : ∀ d, Ψ d → ∃ k : Nat, k ≤ B ∧ d = .int (k : Nat)) (hB : B ≤ 100000)
    (hP : ∀ σ H, P σ H → LM X.w X.K M t n ds σ H) (h0 : ∀ σ H H' k, P σ H → ExM M H H' → MSt M n1 H' → k ≤ B → Ψ (.int (k : Nat)) → I k 0 σ H') (hn : ∀ k σ H, I k k σ H → N σ H)
    (hgB : ∀ k i σ H H2 u, i < k → I k i σ H → Ex H H2 → Dp X.K H2 u (.int (i : Nat)) → B' k i (σ.set tx (some u)) H2) (hb : ∀ k i, i < k → PSs X body (tH (B' k i) (I k (i + 1)) R))
    (ht : X.N[tx]? = some x := by rfl) (hl : Loc X.env.scope x := by first | exact .inl rfl | exact .inr rfl) (hf : X.fn x = true ∨ X.env.scope.names.lookup x = some .local := by first | exact .inl rfl | exact .inr rfl)
    (hg : Gl X "range" := by rfl) (h1 : starEach [a] X.env = [(false, eval a X.env)] := by rfl) (hs : ∀ z, foldedSetIterable (.Call (.Name "range" p) [a] [] pos) X.env z = Pure.pure z := by intro _; rfl) :
    PS X (.For (.Name x px) (.Call (.Name "range" p) [a] [] pos) body [] posF) (tH P N R) := by
  refine hp_forK tx (fun k : Nat => List.range k) (fun i => .int (i : Nat)) I (fun k i _ => B' k i) hx hc hN (pi_range1 hg hm (am_cons hp ha am_nil h1) h1) (fun σ H R' q c => ⟨hP σ H q, fun vs H' dl e1 m1 f1 p1 d1 => ?_⟩) (fun k σ H q => hn k σ H (by rwa [List.length_range] at q)) (fun k i a σ H u H2 hi q e du => ?_) (fun k i a hi => ?_) ht hl hf hs
  · match dl, f1 with
    | [d], f1 =>
      obtain ⟨k, hk, rfl⟩ := hΨ d f1.1
      obtain ⟨v, rfl, dv⟩ := dpa1 d1
      cases dv
      exact ⟨(k : Int), rfl, by omega, by omega, c _ k H' (fun i σ1 H1 _ => walks_rangeN k) (h0 σ H H' k q e1 m1 hk f1.1)⟩
  · have h := List.getElem?_eq_some_iff.mp hi
    obtain ⟨h1, h2⟩ := h
    rw [List.length_range] at h1
    rw [List.getElem_range] at h2
    subst h2
    exact hgB k i σ H H2 u h1 q e du
  · have h := (List.getElem?_eq_some_iff.mp hi).1
    rw [List.length_range] at h
    exact hb k i h
/-! [elt for x in ..], elt draws -/
def wiM (w : World) (K : PySem.W.Frag) (M : Mm) (t : Nat) (ds : Ds) (n n' : Nat) (Ξ : List PyData → Prop) : TI := fun σ H R => LM w K M t n ds σ H ∧ ∀ J H' xs, ExM M H H' → MSt M n' H' → Ξ xs → (∀ H1, ExM M H' H1 → Walks K J H1 xs) → R J H'
def teL (w : World) (K : PySem.W.Frag) (M : Mm) (t : Nat) (ds : Ds) (n n' : Nat) (Ψ : List PyData → Prop) : TE := fun σ H Q => LM w K M t n ds σ H ∧ ∀ p vs H' dl, ExM M H H' → MSt M n' H' → H p = none → H' p = some (.lst vs) → DpAll K H' vs dl → Ψ dl → pureAll dl = true → Q (.ref p) H'
theorem wm_tup {tg : Expr} {xs : List PyData} (h : PE X e (teD X.w X.K ds (.tuple xs))) (hpx : pure (.tuple xs) = true) : PI X tg e (wiM X.w X.K M t ds n n (· = xs)) :=
  pi_imp (pi_tup h) fun σ H R q => ⟨q.1.lc, fun v H1 e1 h1 => by
    have h1' := h1
    cases h1 with
    | tup hs hd => exact ⟨_, rfl, ⟨_, hs⟩, q.2 _ H1 _ (.of e1) (q.1.ms.up e1) rfl fun H2 e2 => walks_tup (h1'.upT hpx (e2.exT (q.1.ms.up e1)))⟩⟩
theorem wm_range {tg : Expr} (B : Nat) (hm : X.mg "range" = none) (hp : PuA ds) (ha : PE X a (teM X.w X.K M t ds n n1 Ψ)) (hΨ : ∀ d, Ψ d → ∃ k : Nat, k ≤ B ∧ d = .int (k : Nat)) (hB : B ≤ 100000) (hg : Gl X "range" := by rfl) (h1 : starEach [a] X.env = [(false, eval a X.env)] := by rfl) :
    PI X tg (.Call (.Name "range" p) [a] [] pos) (wiM X.w X.K M t ds n n1 (fun xs => ∃ k : Nat, k ≤ B ∧ xs = (List.range k).map fun i => .int (i : Nat))) :=
  pi_imp (pi_range1 hg hm (am_cons hp ha am_nil h1) h1) fun σ H R q => ⟨q.1, fun vs H' dl e1 m1 f1 p1 d1 => by
    match dl, f1 with
    | [d], f1 =>
      obtain ⟨k, hk, rfl⟩ := hΨ d f1.1
      obtain ⟨v, rfl, dv⟩ := dpa1 d1
      cases dv
      exact ⟨(k : Int), rfl, by omega, by omega, q.2 _ H' _ e1 m1 ⟨k, hk, rfl⟩ fun H1 _ => walks_rangeN k⟩⟩
def teMU (w : World) (K : PySem.W.Frag) (M : Mm) (t j : Nat) (ds : Ds) (n c B : Nat) (A : Pd) (Φ : Pd) : TE := fun σ H Q => ∃ i a, i < B ∧ A a ∧ teM w K M t (ds.set j (some a)) (n + i * c) (n + (i + 1) * c) Φ σ H Q
theorem pe_MU {X : Cx} {e : Expr} {M : Mm} {t j n c B : Nat} {ds : Ds} {A Φ : Pd} (h : ∀ i a, i < B → A a → PE X e (teM X.w X.K M t (ds.set j (some a)) (n + i * c) (n + (i + 1) * c) Φ)) : PE X e (teMU X.w X.K M t j ds n c B A Φ) :=
  ⟨fun pins s σ H Q I ⟨i, a, h1, h2, q⟩ => (h i a h1 h2).run pins s σ H Q I q⟩
theorem lc_M {w : World} {K : PySem.W.Frag} {M : Mm} {t j n n1 c B : Nat} {ds : Ds} {A Φ : Pd} {Ξ : List PyData → Prop} (hB : B ≤ 100000) (hpu : PuA ds) (hjt : j ≠ t) (hΞ : ∀ xs, Ξ xs → xs.length ≤ B ∧ ∀ x ∈ xs, A x) {σ : L2.St} {H : Hp} {Q : VK}
    (q : teL w K M t ds n (n1 + B * c) (fun dl => (∀ x ∈ dl, Φ x) ∧ ∃ xs, Ξ xs ∧ dl.length = xs.length) σ H Q) : tLc (wiM w K M t ds n n1 Ξ) (gName j) tYes (teMU w K M t j ds n1 c B A Φ) [j] σ H Q := by
  refine ⟨q.1, fun J H1 xs e1 m1 hx wk D hD => ?_⟩
  obtain ⟨hxl, hxa⟩ := hΞ xs hx
  have nD : D ≠ M.m ∧ D ≠ M.g ∧ D ≠ M.c := by
    obtain ⟨_, _, _, _, y⟩ := m1
    exact ⟨(fun e => by rw [e, y.m] at hD; cases hD), (fun e => by rw [e, y.g] at hD; cases hD), (fun e => by rw [e, y.c] at hD; cases hD)⟩
  have keepD : ∀ {m : Nat} {Hc : Hp} {o : HO}, MSt M m Hc → MSt M m (upd Hc D o) := fun {m Hc o} z => by
    obtain ⟨k, cs, gs, hk, y⟩ := z
    exact ⟨k, cs, gs, hk, by rw [upd_ne (Ne.symm nD.1)]; exact y.m, by rw [upd_ne (Ne.symm nD.2.2)]; exact y.c, by rw [upd_ne (Ne.symm nD.2.1)]; exact y.g, y.c64, y.g63, y.cg⟩
  have exD : ∀ {Hc : Hp} {o : HO}, ExM M H1 Hc → ExM M H1 (upd Hc D o) := fun {Hc o} z b u n1 n2 hb => by
    have : b ≠ D := fun e => by rw [e, hD] at hb; cases hb
    rw [upd_ne this]
    exact z b u n1 n2 hb
  refine ⟨fun i m Hc => m = xs.length - i ∧ i ≤ xs.length ∧ ExM M H1 Hc ∧ MSt M (n1 + i * c) Hc ∧ ∃ acc dl, Hc D = some (.lst acc) ∧ DpAll K Hc acc dl ∧ dl.length = i ∧ (∀ x ∈ dl, Φ x) ∧ pureAll dl = true, ⟨xs.length, rfl, Nat.zero_le _, exD (.refl M H1), by rw [Nat.zero_mul]; exact keepD m1, [], [], upd_same, .nil, rfl, (fun _ h => nomatch h), rfl⟩, ?_⟩
  rintro i m Hc ⟨rfl, hi, ec, mc, acc, dl, hacc, dacc, hdl, hΦ, hpd⟩
  obtain ⟨wg, ws⟩ := wk Hc ec
  by_cases hlt : i < xs.length
  · have ha : xs[i]? = some xs[i] := List.getElem?_eq_getElem hlt
    have hmem : xs[i] ∈ xs := List.getElem_mem hlt
    obtain ⟨go, yl⟩ := wg i xs[i] ha
    refine .inr ⟨go, fun Hn => ExM M H1 Hn ∧ MSt M (n1 + (i + 1) * c) Hn ∧ ∃ acc dl, Hn D = some (.lst acc) ∧ DpAll K Hn acc dl ∧ dl.length = i + 1 ∧ (∀ x ∈ dl, Φ x) ∧ pureAll dl = true, fun Hn ⟨a1, a2, a3⟩ => ⟨xs.length - (i + 1), by omega, rfl, hlt, a1, a2, a3⟩, fun v H2 y => ?_⟩
    obtain ⟨e2, dv⟩ := yl v H2 y
    have L1 : Lc w K H2 σ ds := ((q.1.lc.exM hpu.get q.1.ms e1).exM hpu.get m1 ec).up e2
    refine g1_D (L1.wipe [j]) dv fun σ2 w2 L2' => ⟨w2, ?_⟩
    unfold tYes
    dsimp only
    rw [if_pos rfl]
    refine ⟨i, xs[i], by omega, hxa _ hmem, ⟨?_, mc.up e2, L2'⟩, fun u H3 d e3 m3 h3 p3 d3 => ?_⟩
    · have h1 : (L2.wipe σ2 [j])[t]? = (L2.wipe σ [j])[t]? := by rw [w2]
      have h2 : ∀ z : L2.St, (L2.wipe z [j])[t]? = z[t]? := fun z => by
        show (z.set j none)[t]? = z[t]?
        rw [List.getElem?_set_ne hjt]
      rw [h2, h2] at h1
      rw [h1]
      exact q.1.m0
    · have hD3 : H3 D = some (.lst acc) := e3 D _ nD.1 nD.2.1 (e2 D _ hacc)
      refine ⟨acc, hD3, Evl.sz_lt (by rw [dpa_len dacc, hdl]; omega), exD ((ec.trans (.of e2)).trans e3), keepD m3, acc ++ [u], dl ++ [d], upd_same, ?_, by rw [List.length_append, hdl]; rfl, fun x hx => ?_, ?_⟩
      · have dacc3 := dpa_upT (e3.exT (mc.up e2)) _ hpd (dacc.up e2)
        exact dpa_append (dpa_upT (ExT.lst hD3) _ hpd dacc3) (.cons (d3.upT p3 (ExT.lst hD3)) .nil)
      · rcases List.mem_append.mp hx with hx | hx
        · exact hΦ x hx
        · rw [List.mem_singleton.mp hx]; exact h3
      · have : ∀ l : List PyData, pureAll l = true → pureAll (l ++ [d]) = true := by
          intro l
          induction l with
          | nil => intro _; simp [pureAll, p3]
          | cons a l ih =>
            intro h
            have h' : pure a = true ∧ pureAll l = true := by simpa [pureAll] using h
            simp [pureAll, h'.1, ih h'.2]
        exact this dl hpd
  · have ei : i = xs.length := by omega
    subst ei
    refine .inl ⟨ws, q.2 D acc Hc dl (e1.trans ec) (mc.le (Nat.add_le_add_left (Nat.mul_le_mul_right c hxl) n1)) ?_ hacc dacc ⟨hΦ, xs, hx, hdl⟩ hpd⟩
    by_cases h0 : H D = none
    · exact h0
    · exfalso
      cases hq : H D with
      | none => exact h0 hq
      | some o =>
        have := e1 D o nD.1 nD.2.1 hq
        rw [hD] at this
        cases this
section
variable {X : Cx} {M : Mm} {t n n1 c B : Nat} {ds : Ds} {A Φ : Pd} {Ξ : List PyData → Prop} {elt iter : Expr} {scope : Scope} {pos spos p1 py : Pos} {x nm : Str}
theorem asg_lcM (tt j : Nat) (hB : B ≤ 100000) (hpu : PuA ds) (hjt : j ≠ t) (hΞ : ∀ xs, Ξ xs → xs.length ≤ B ∧ ∀ x ∈ xs, A x) (hc : X.calm = true) (hN : X.N.Nodup) (hi : PI X (.Name x p1) iter (wiM X.w X.K M t ds n n1 Ξ)) (ok : BlkOk X.N X.env.scope scope [(x, j)])
    (hg : ∀ s H C cl fp, PG (BX X scope s H C cl fp) (.Name x p1) (gName j)) (he : ∀ i a, i < B → A a → ∀ s H C cl fp, PE (BX X scope s H C cl fp) elt (teM X.w X.K M t (ds.set j (some a)) (n1 + i * c) (n1 + (i + 1) * c) Φ))
    (hy : X.N[tt]? = some nm := by rfl) (hyl : X.env.scope.names.lookup nm = some .local := by rfl) (hsw : swapsWith (.ListComp elt [⟨.Name x p1, iter, [], 0⟩] scope pos) (some (.Name nm py)) spos.line X.env = Pure.pure true := by exact sw_true rfl rfl rfl (by decide +kernel)) (hs : ∀ z, foldedSetIterable iter X.env z = Pure.pure z := by intro _; rfl) :
    PS X (.Assign [.Name nm py] (.ListComp elt [⟨.Name x p1, iter, [], 0⟩] scope pos) spos) (tAsg (teL X.w X.K M t ds n (n1 + B * c) (fun dl => (∀ x ∈ dl, Φ x) ∧ ∃ xs, Ξ xs ∧ dl.length = xs.length)) (gName tt)) :=
  ps_imp (ps_setLc hc hN hy hyl hsw hi ok hg (fun s H C cl fp => pts_nil) (fun s H C cl fp => pe_MU (X := BX X scope s H C cl fp) fun i a h1 h2 => he i a h1 h2 s H C cl fp) hs) fun D σ H q =>
    lc_M hB hpu hjt hΞ q
end
end
end G33
set_option Elab.async false
set_option linter.all false
set_option maxRecDepth 100000
set_option maxHeartbeats 4000000
namespace G33
open PySem PySem.Spec PyProof.Rows L2
section
variable {w : World} {K : PySem.W.Frag} {M : Mm} {t n n1 n' : Nat} {ds : Ds} {σ : L2.St} {H0 H H' : Hp} {q : Addr} {vs : List V} {xs : List PyData}
theorem LiA.exM (L : LiA K H σ t q vs xs) (p : pureAll xs = true) (h1 : q ≠ M.m) (h2 : q ≠ M.g) (m : MSt M n H) (e : ExM M H H') : LiA K H' σ t q vs xs := ⟨L.slot, e _ _ h1 h2 L.here, dpa_upT (e.exT m) _ p L.data⟩
/-- an address that is none of the state's -/
structure Off (M : Mm) (q : Addr) : Prop where
  m : q ≠ M.m
  c : q ≠ M.c
  g : q ≠ M.g
theorem MSt.off (m : MSt M n H) (h : H q = none) : Off M q := by
  obtain ⟨_, _, _, _, y⟩ := m
  exact ⟨(fun e => by rw [e, y.m] at h; cases h), (fun e => by rw [e, y.c] at h; cases h), (fun e => by rw [e, y.g] at h; cases h)⟩
theorem MSt.put {o : HO} (m : MSt M n H) (h : Off M q) : MSt M n (upd H q o) := by
  obtain ⟨k, cs, gs, hk, y⟩ := m
  exact ⟨k, cs, gs, hk, by rw [upd_ne (Ne.symm h.m)]; exact y.m, by rw [upd_ne (Ne.symm h.c)]; exact y.c, by rw [upd_ne (Ne.symm h.g)]; exact y.g, y.c64, y.g63, y.cg⟩
theorem ExM.put {o : HO} (e : ExM M H0 H) (h : H0 q = none) : ExM M H0 (upd H q o) := fun b u n1 n2 hb => by
  have : b ≠ q := fun z => by rw [z, h] at hb; cases hb
  rw [upd_ne this]
  exact e b u n1 n2 hb
end
section
variable {X : Cx} {M : Mm} {t n n1 n' : Nat} {ds : Ds} {Φ : Pd} {e : Expr} {pos pos' : Pos} {P N : L2.St → Hp → Prop} {R : V → Hp → Prop} {x : Str}
theorem hm_asg (i : Nat) (hN : X.N.Nodup) (he : PE X e (teM X.w X.K M t ds n n1 Φ)) (hP : ∀ σ H, P σ H → LM X.w X.K M t n ds σ H) (hn : ∀ σ H v H' d, P σ H → ExM M H H' → MSt M n1 H' → Φ d → pure d = true → Dp X.K H' v d → N (σ.set i (some v)) H') (hi : X.N[i]? = some x := by rfl) (hx : Loc X.env.scope x := by first | exact .inl rfl | exact .inr rfl)
    (hs : swapsWith e (some (.Name x pos')) pos.line X.env = Pure.pure false := by rfl) (hf : X.fn x = true ∨ X.env.scope.names.lookup x = some .local := by first | exact .inl rfl | exact .inr rfl) : PS X (.Assign [.Name x pos'] e pos) (tH P N R) :=
  ps_imp (ps_set hN hi hx he hs hf) fun D σ H q => ⟨hP σ H q.1, fun v H' d e1 m1 h1 p1 d1 => q.2.1 _ _ (hn σ H v H' d q.1 e1 m1 h1 p1 d1)⟩
theorem hm_ret (he : PE X e (teM X.w X.K M t ds n n1 Φ)) (hP : ∀ σ H, P σ H → LM X.w X.K M t n ds σ H) (hn : ∀ σ H v H' d, P σ H → ExM M H H' → MSt M n1 H' → Φ d → pure d = true → Dp X.K H' v d → R v H') : PS X (.Return (some e) pos) (tH P N R) :=
  ps_imp (ps_ret he) fun D σ H q => ⟨hP σ H q.1, fun v H' d e1 m1 h1 p1 d1 => q.2.2 _ _ (hn σ H v H' d q.1 e1 m1 h1 p1 d1)⟩
end
section
variable {P : Program} {w : World} {K : PySem.W.Frag} {mg : Str → Option Value} {base : Heap}
abbrev N_law_yard : List Str := ["_law_m", "_law_most", "_law_many", "_law_fares", "_law_last", "_law_k"]
theorem sc_law_yard : FnScope N_law_yard ["_law_m", "_law_most", "_law_many"] (defScope (top 81)) := ⟨rfl, rfl, rfl, by decide +kernel, rfl, by decide +kernel, by decide +kernel⟩
def DrawnHall : Pd := fun d => ∃ h : Hall, h.Ok ∧ h.fares.length ≤ 3 ∧ h.seats ≤ 4 ∧ d = h.enc
def R_yard : List PyData → Pd → Prop := fun dl Φ => dl = [.int 4, .int 3] ∧ Φ = DrawnHall
structure FsOk (fs : List Int) (last : Int) (i : Nat) : Prop where
  len : fs.length = i
  rng : ∀ f ∈ fs, 1 ≤ f ∧ f ≤ last
  up : fs.Pairwise (· < ·)
  lo : 0 ≤ last
  hi : last ≤ 24 * (i : Int)
theorem FsOk.next {fs : List Int} {last x : Int} {i : Nat} (h : FsOk fs last i) (h0 : 0 ≤ x) (h1 : x ≤ 23) : FsOk (fs ++ [last + 1 + x]) (last + 1 + x) (i + 1) := by
  have hl := h.lo
  have hh := h.hi
  refine ⟨by rw [List.length_append, h.len]; rfl, fun f hf => ?_, ?_, by omega, by omega⟩
  · rcases List.mem_append.mp hf with hf | hf
    · have := h.rng f hf
      omega
    · rw [List.mem_singleton.mp hf]; omega
  · rw [List.pairwise_append]
    refine ⟨h.up, List.pairwise_singleton _ _, fun a ha b hb => ?_⟩
    rw [List.mem_singleton.mp hb]
    have := h.rng a ha
    omega
theorem pairwise_zip {R : Int → Int → Prop} : ∀ {l : List Int}, l.Pairwise R → ∀ p ∈ l.zip l.tail, R p.1 p.2
  | [], _, p, hp => by simp at hp
  | [a], _, p, hp => by simp at hp
  | a :: b :: l, h, p, hp => by
    rw [List.tail_cons, List.zip_cons_cons] at hp
    rcases List.mem_cons.mp hp with rfl | hp
    · exact (List.pairwise_cons.mp h).1 b (by simp)
    · exact pairwise_zip (List.pairwise_cons.mp h).2 p (by simpa using hp)
theorem FsOk.hall {fs : List Int} {last s : Int} {i : Nat} (h : FsOk fs last i) (h1 : 1 ≤ i) (h3 : i ≤ 3) (s1 : 1 ≤ s) (s4 : s ≤ 4) : (⟨s, fs⟩ : Hall).Ok := by
  have hl := h.len
  have hh := h.hi
  exact ⟨s1, by show s ≤ 6; omega, by show 1 ≤ fs.length; omega, by show fs.length ≤ 4; omega, fun f hf => by have := h.rng f hf; omega, pairwise_zip h.up⟩
def yds (last : Int) (o5 : Option PyData) : Ds := [none, some (.int 4), some (.int 3), none, some (.int last), o5]
structure YJ (w : World) (K : PySem.W.Frag) (M : Mm) (H0 : Hp) (n : Nat) (fs : List Int) (last : Int) (o5 : Option PyData) (σ : L2.St) (H : Hp) : Prop where
  ex : ExM M H0 H
  lm : LM w K M 0 n (yds last o5) σ H
  li : ∃ q vs, LiA K H σ 3 q vs (fs.map .int) ∧ H0 q = none ∧ Off M q
theorem yds_pu {last : Int} {o5 : Option PyData} (h5 : ∀ d, o5 = some d → pure d = true) : PuA (yds last o5) := by
  refine .n (.p (pure_int _) (.p (pure_int _) (.n (.p (pure_int _) ?_))))
  cases o5 with
  | none => exact .n .nil
  | some d => exact .p (h5 d rfl) .nil
theorem ints_pu (fs : List Int) : pureAll (fs.map PyData.int) = true := pureAll_map fun a _ => pure_int a
theorem YJ.go {M : Mm} {H0 H H' : Hp} {n n' : Nat} {fs : List Int} {last : Int} {o5 : Option PyData} {σ : L2.St} (x : YJ w K M H0 n fs last o5 σ H) (h5 : ∀ d, o5 = some d → pure d = true) (e : ExM M H H') (m : MSt M n' H') : YJ w K M H0 n' fs last o5 σ H' :=
  ⟨x.ex.trans e, x.lm.go (yds_pu h5) e m, let ⟨q, vs, L, h0, h1⟩ := x.li; ⟨q, vs, L.exM (ints_pu fs) h1.m h1.g x.lm.ms e, h0, h1⟩⟩
theorem IntB.int {n : Nat} {d : PyData} (h : IntB n d) : ∃ i, d = .int i := let ⟨v, _, e⟩ := h; ⟨v, e⟩
theorem ok_law_yard (T : Fx K mg) : OkF P w K mg base 3 "_law_yard" ["_law_m", "_law_most", "_law_many"] (spM w K 2 20 R_yard) := by
  refine mk_okM T 44 rfl sc_law_yard rfl (fun _ _ _ _ _ _ us hl => match us, hl with | [_, _, _], _ => rfl) rfl (by exact lle rfl) fun cdv A outer sh Hc E hr dl Φ M n hR _ hc σ0 H0 L0 e0 ms0 => ?_
  obtain ⟨rfl, rfl⟩ := hR
  refine hs_cons (M := YJ w K M H0 n [] 0 none) (ps_imp (ps_par (i := 3) (j := 4) rfl sc_law_yard.nd rfl rfl (by decide) rfl rfl (pa_cons (po_lst (ds := [none, some (.int 4), some (.int 3), none, none, none]) ad_nil (by exact lle rfl)) (pa_cons (pd_int (ds := [none, some (.int 4), some (.int 3), none, none, none]) (i := 0)) pa_nil)) rfl rfl) fun D σ H q => ?_) ?_
  · obtain ⟨⟨rfl, rfl⟩, hN, _⟩ := q
    refine ⟨L0, fun H1 v1 H2 e1 o => ⟨(L0.up e1).up o.1, fun v2 H3 e2 d2 => ⟨v1, v2, rfl, hN _ _ ?_⟩⟩⟩
    obtain ⟨x, q, vs, rfl, nq, hq, dq⟩ := o
    have ee := (e1.trans x).trans e2
    have h0q := ex_none e1 nq
    refine ⟨.of ee, ⟨set_ne (by decide) (set_ne (by decide) e0), ms0.up ee, ?_⟩, q, vs, ⟨by rw [List.getElem?_set_ne (by decide)]; exact set_eq (by rw [L0.1]; exact lle rfl), e2 _ _ hq, dq.up e2⟩, h0q, ms0.off h0q⟩
    exact ((L0.up ee).un 3 _).set 4 d2
  refine hs_cons (M := fun σ H => ∃ k fs last, 1 ≤ k ∧ k ≤ 3 ∧ FsOk fs last k ∧ YJ w K M H0 (n + 10) fs last none σ H) ?_ ?_
  · refine hm_forR (hm := T.f_range) (M := M) (t := 0) (n := n) (n1 := n + 1) (ds := yds 0 none) 5 3 (fun k i σ H => 1 ≤ k ∧ k ≤ 3 ∧ ∃ fs last, FsOk fs last i ∧ YJ w K M H0 (n + 1 + 3 * i) fs last none σ H) (fun k i σ H => 1 ≤ k ∧ k ≤ 3 ∧ ∃ fs last, FsOk fs last i ∧ YJ w K M H0 (n + 1 + 3 * i) fs last (some (.int (i : Nat))) σ H) nox_xe rfl sc_law_yard.nd (yds_pu fun d e => nomatch e)
      (em_add (yds_pu fun d e => nomatch e) (em_d pd_int (pure_int _)) (em_call 0 (ok_law_draw T) hr ⟨3, by decide, by decide, rfl, rfl⟩ (ad_cons (pd_name 2) ad_nil) (by omega)) (fun d h => ⟨_, h⟩) (fun d h => IntB.int h)) (fun d h => ?_) (by decide) (fun σ H q => q.lm) (fun σ H H' k q e m hk hΨ => ?_) (fun k σ H q => ?_) (fun k i σ H H2 u hik q e du => ?_) (fun k i hik => ?_)
    · obtain ⟨i, j, rfl, h1, v, hv, h2⟩ := h
      cases h1
      cases h2
      exact ⟨1 + v, by omega, by rw [Int.natCast_add]; rfl⟩
    · obtain ⟨i, j, e1, h1, v, hv, h2⟩ := hΨ
      cases h1
      cases h2
      have e1 : ((k : Nat) : Int) = 1 + (v : Nat) := by injection e1
      exact ⟨by omega, hk, [], 0, ⟨rfl, (fun _ h => nomatch h), List.Pairwise.nil, Int.le_refl _, by omega⟩, q.go (fun d e => nomatch e) e m⟩
    · obtain ⟨h1, h3, fs, last, f, y⟩ := q
      exact ⟨k, fs, last, h1, h3, f, y.ex, y.lm.le (by omega), y.li⟩
    · obtain ⟨h1, h3, fs, last, f, y⟩ := q
      refine ⟨h1, h3, fs, last, f, y.ex.trans (.of e), (y.lm.up e).set (i := 5) (by decide) du, ?_⟩
      obtain ⟨q, vs, L, a, b⟩ := y.li
      exact ⟨q, vs, (L.up e).set (by decide), a, b⟩
    · refine hs_pre fun σ1 H1 q1 => ?_
      obtain ⟨h1, h3, fs, last, f, y⟩ := q1
      have pu : PuA (yds last (some (.int (i : Nat)))) := yds_pu fun d e => by cases e; exact pure_int _
      refine hs_cons (M := fun σ H => ∃ x : Int, 0 ≤ x ∧ x ≤ 23 ∧ YJ w K M H0 (n + 1 + 3 * (i + 1)) fs (last + 1 + x) (some (.int (i : Nat))) σ H)
        (hm_asg (M := M) (t := 0) (n := n + 1 + 3 * i) (n1 := n + 1 + 3 * i + 1 + 1 + 1) (ds := yds last (some (.int (i : Nat)))) 4 sc_law_yard.nd (em_add pu (em_add pu (em_d (pd_name 4) (pure_int _)) (em_d pd_int (pure_int _)) (fun d h => ⟨_, h⟩) (fun d h => ⟨_, h⟩)) (em_pick pu (am_cons pu (em_call 0 (ok_law_draw T) hr ⟨3, by decide, by decide, rfl, rfl⟩ (ad_cons pd_int ad_nil) (by omega)) (am_cons pu (em_call 0 (ok_law_draw T) hr ⟨24, by decide, by decide, rfl, rfl⟩ (ad_cons pd_int ad_nil) (by omega)) (am_cons pu (em_d pd_int (pure_int _)) am_nil))) (em_call 0 (ok_law_draw T) hr ⟨3, by decide, by decide, rfl, rfl⟩ (ad_cons pd_int ad_nil) (by omega)) (by exact lle rfl)) ?_ ?_) (fun σ H q => by obtain ⟨rfl, rfl⟩ := q; exact y.lm) (fun σ H v H' d q e m hΦ hp dv => ?_)) ?_
      · rintro d ⟨a, b, rfl, _⟩
        exact ⟨_, rfl⟩
      · rintro d ⟨k, Ψ, hk, hd⟩
        match k, hk with
        | 0, hk => cases hk; exact IntB.int hd
        | 1, hk => cases hk; exact IntB.int hd
        | 2, hk => cases hk; exact ⟨_, hd⟩
      · obtain ⟨rfl, rfl⟩ := q
        obtain ⟨a, b, rfl, ⟨a1, a2, ha, ha1, ha2⟩, k, Ψ, hk, hd⟩ := hΦ
        cases ha1
        cases ha2
        have ha : a = last + 1 := by injection ha
        have hb : 0 ≤ b ∧ b ≤ 23 := by
          match k, hk with
          | 0, hk => cases hk; obtain ⟨v, hv, e⟩ := hd; cases e; omega
          | 1, hk => cases hk; obtain ⟨v, hv, e⟩ := hd; cases e; omega
          | 2, hk => cases hk; cases hd; omega
        subst ha
        have y1 := y.go (fun d e => by cases e; exact pure_int _) e m
        refine ⟨b, hb.1, hb.2, y1.ex, (y1.lm.set (i := 4) (by decide) dv).le (by omega), ?_⟩
        obtain ⟨q, vs, L, a, b⟩ := y1.li
        exact ⟨q, vs, L.set (by decide), a, b⟩
      · refine hs_ex fun x => hs_pre fun σ2 H2 q2 => ?_
        obtain ⟨x0, x1, y2⟩ := q2
        refine hs_one (hp_append (d := .int (last + 1 + x)) (ds := yds (last + 1 + x) (some (.int (i : Nat)))) 3 (pd_name 4) (fun σ H q => by obtain ⟨rfl, rfl⟩ := q; exact y2.lm.lc) (fun σ H q => ?_))
        obtain ⟨rfl, rfl⟩ := q
        obtain ⟨q, vs, L, h0q, off⟩ := y2.li
        have hvl : vs.length = i := by rw [dpa_len L.data, List.length_map, f.len]
        refine ⟨q, vs, L.slot, L.here, by omega, fun v1 H1 e1 d1 => ⟨h1, h3, fs ++ [last + 1 + x], last + 1 + x, f.next x0 x1, ?_⟩⟩
        have L1 := L.up e1
        have al : AtLst q H1 (upd H1 q (.lst (vs ++ [v1]))) := ⟨⟨_, L1.here⟩, fun b hb => upd_ne hb⟩
        refine ⟨((y2.ex.trans (.of e1)).put h0q), ⟨y2.lm.m0, (y2.lm.ms.up e1).put off, ?_⟩, q, vs ++ [v1], ⟨L1.slot, upd_same, ?_⟩, h0q, off⟩
        · exact (SubD.lc (a := yds (last + 1 + x) none) (.same (.same (.same (.same (.same (.skip .nil)))))) (y2.lm.lc.up e1)).upT (PuA.get (show PuA (yds (last + 1 + x) none) from yds_pu fun d e => nomatch e)) al.exT
        · rw [List.map_append]
          exact dpa_append (dpa_upT al.exT _ (ints_pu fs) L1.data) (.cons (d1.upT (pure_int _) al.exT) .nil)
  · refine hs_ex fun k => hs_ex fun fs => hs_ex fun last => hs_pre fun σ1 H1 q1 => ?_
    obtain ⟨h1, h3, f, y⟩ := q1
    have pu : PuA (yds last none) := yds_pu fun d e => nomatch e
    refine hs_one (ps_imp (ps_ret (pe_tup (pa_cons (em_add (M := M) (t := 0) (n := n + 10) pu (em_d pd_int (pure_int _)) (em_call 0 (ok_law_draw T) hr ⟨4, by decide, by decide, rfl, rfl⟩ (ad_cons (pd_name 1) ad_nil) (by omega)) (fun d h => ⟨_, h⟩) (fun d h => IntB.int h)) (pa_cons (pd_tuple (ds := (yds last none).set 3 (some (.list (fs.map .int)))) T.f_tuple (pd_name 3) (.inl rfl)) pa_nil)))) fun D σ H q => ?_)
    obtain ⟨⟨rfl, rfl⟩, _, hR⟩ := q
    refine ⟨y.lm, fun v H' d e m hΦ hp dv => ?_⟩
    obtain ⟨a, b, rfl, ha, c, hc4, hb⟩ := hΦ
    cases ha
    cases hb
    have y1 := y.go (fun d e => nomatch e) e m
    obtain ⟨q, vs, L, h0q, off⟩ := y1.li
    refine ⟨y1.lm.lc.li L, fun u H2 e2 d2 => ⟨Evl.sz_of (by exact lle rfl), fun p hp => hR _ _ ⟨_, (y1.ex.trans (.of e2)).trans (.of (Evl.Ex.new hp)), ?_, ⟨⟨1 + (c : Nat), fs⟩, f.hall h1 h3 (by omega) (by omega), by show fs.length ≤ 3; rw [f.len]; exact h3, by show 1 + (c : Int) ≤ 4; omega, rfl⟩, pure_hall _, ?_⟩⟩⟩
    · exact ((y1.lm.ms.up e2).up (Evl.Ex.new hp)).le (by omega)
    · exact .tup (.inl (.inl upd_same)) (.cons ((dv.up e2).up (Evl.Ex.new hp)) (.cons (d2.up (Evl.Ex.new hp)) .nil))
end
end G33
set_option Elab.async false
set_option linter.all false
set_option maxRecDepth 100000
set_option maxHeartbeats 4000000
namespace G33
open PySem PySem.Spec PyProof.Rows L2
theorem exM_none {M : Mm} {n : Nat} {H H' : Hp} {q : Addr} (e : ExM M H H') (m : MSt M n H') (h : H' q = none) : H q = none := by
  have off := m.off h
  cases hq : H q with
  | none => rfl
  | some o => rw [e q o off.m off.g hq] at h; cases h
theorem intsB {n : Nat} : ∀ {dl : List PyData}, (∀ x ∈ dl, IntB n x) → ∃ l : List Int, dl = l.map .int ∧ ∀ x ∈ l, 0 ≤ x ∧ x < (n : Int)
  | [], _ => ⟨[], rfl, fun _ h => nomatch h⟩
  | d :: dl, h => by
    obtain ⟨l, rfl, hl⟩ := intsB (dl := dl) fun x hx => h x (by simp [hx])
    obtain ⟨v, hv, rfl⟩ := h d (by simp)
    exact ⟨(v : Int) :: l, rfl, fun x hx => by
      rcases List.mem_cons.mp hx with rfl | hx
      · omega
      · exact hl x hx⟩
section
variable {X : Cx} {M : Mm} {t n n1 : Nat} {ds ds2 : Ds} {i : Expr} {es : List Expr} {pos p : Pos}
def tePk (w : World) (K : PySem.W.Frag) (M : Mm) (t : Nat) (ds ds2 : Ds) (n n' : Nat) (dl : List PyData) : TE := fun σ H Q => Lc w K H σ ds2 ∧ LM w K M t n ds σ H ∧ ∀ v H' d, ExM M H H' → MSt M n' H' → d ∈ dl → Dp K H' v d → Q v H'
/-- [..][draw], the items plain -/
theorem em_pickD {dl : List PyData} (h : PA X es (taD X.w X.K ds2 dl)) (hpd : pureAll dl = true) (hi : PE X i (teM X.w X.K M t ds n n1 (IntB dl.length))) (hl : dl.length ≤ 100000) (hs : PlainIx i := by exact fun _ _ => rfl) : PE X (.Subscript (.List es p) i pos) (tePk X.w X.K M t ds ds2 n n1 dl) :=
  pe_imp (pe_ix ix_list (pe_lst h) hi hs) fun σ H Q q => ⟨q.1, fun vs H1 e1 d1 => ⟨by rw [dpa_len d1]; exact Evl.sz_of hl, fun r hr => ⟨(q.2.1.up e1).up (Evl.Ex.new hr), fun v H2 d e2 m2 hi2 _ dv => by
    obtain ⟨j, hj, rfl⟩ := hi2
    cases dv
    have hd := List.getElem?_eq_getElem hj
    have pd := pureAll_at hpd hd
    obtain ⟨u, hu, du⟩ := dpa_get d1 hd
    have m1 := q.2.1.ms.up e1
    have off := m1.off hr
    have hvl : j < vs.length := by rw [dpa_len d1]; exact hj
    refine ⟨r, vs, (j : Int), u, rfl, rfl, .inl (.inl (e2 r _ off.m off.g upd_same)), by rw [atI_nat _ _ hvl]; exact hu, q.2.2 u H2 _ (((ExM.of e1).trans (.of (Evl.Ex.new hr))).trans e2) m2 (List.getElem_mem hj) ?_⟩
    exact (du.up (Evl.Ex.new hr)).upT pd (e2.exT (m1.up (Evl.Ex.new hr)))⟩⟩⟩
end
theorem set_last_up {l : List Int} (h : l.Pairwise (· ≤ ·)) {x : Int} (hx : ∀ y ∈ l, y ≤ x) {k : Nat} (hk : k + 1 = l.length) : (l.set k x).Pairwise (· ≤ ·) := by
  have e : l.set k x = l.take k ++ [x] := by
    rw [List.set_eq_take_append_cons_drop, if_pos (by omega), List.drop_eq_nil_of_le (by omega)]
  rw [e, List.pairwise_append]
  refine ⟨h.sublist (List.take_sublist k l), List.pairwise_singleton _ _, fun a ha b hb => ?_⟩
  rw [List.mem_singleton.mp hb]
  exact hx a (List.mem_of_mem_take ha)
theorem sort_perm (l : List Int) : (l.mergeSort fun a b => decide (a ≤ b)).Perm l := List.mergeSort_perm l _
theorem sort_up (l : List Int) : (l.mergeSort fun a b => decide (a ≤ b)).Pairwise (· ≤ ·) := by
  have h := List.pairwise_mergeSort (le := fun a b : Int => decide (a ≤ b)) (fun a b c h1 h2 => by simp at *; omega) (fun a b => by simp; omega) l
  exact h.imp fun h => by simpa using h
section
variable {P : Program} {w : World} {K : PySem.W.Frag} {mg : Str → Option Value} {base : Heap}
abbrev N_law_bare : List Str := ["_law_m", "_law_yard_here", "_law_word", "_law_some", "_law_fare"]
theorem sc_law_bare : FnScope N_law_bare ["_law_m", "_law_yard_here"] (defScope (top 82)) := ⟨rfl, rfl, rfl, by decide +kernel, rfl, by decide +kernel, by decide +kernel⟩
def DrawnBare (h : Hall) : Pd := fun d => ∃ (p : Pw) (l : List Int), LimOk h p l ∧ d = (Ru.plain p l).enc
def R_bare : List PyData → Pd → Prop := fun dl Φ => ∃ h : Hall, h.Ok ∧ h.fares.length ≤ 3 ∧ dl = [h.enc] ∧ Φ = DrawnBare h
def bds5 (h : Hall) (o2 o4 : Option PyData) : Ds := [none, some h.enc, o2, none, o4]
structure LOk (h : Hall) (l : List Int) : Prop where
  len : l.length = h.fares.length
  rng : ∀ x ∈ l, 0 ≤ x ∧ x ≤ h.seats
structure BJ (w : World) (K : PySem.W.Frag) (M : Mm) (H0 : Hp) (n : Nat) (h : Hall) (p : Pw) (l : List Int) (σ : L2.St) (H : Hp) : Prop where
  ex : ExM M H0 H
  lm : LM w K M 0 n (bds5 h (some (.str p.str)) none) σ H
  li : ∃ q vs, LiA K H σ 3 q vs (l.map .int) ∧ H0 q = none ∧ Off M q
theorem bds5_pu {h : Hall} {o2 o4 : Option PyData} (h2 : ∀ d, o2 = some d → pure d = true) (h4 : ∀ d, o4 = some d → pure d = true) : PuA (bds5 h o2 o4) := by
  have one : ∀ {o : Option PyData} {ds : Ds}, (∀ d, o = some d → pure d = true) → PuA ds → PuA (o :: ds) := fun {o ds} ho hd => by
    cases o with
    | none => exact .n hd
    | some d => exact .p (ho d rfl) hd
  exact .n (.p (pure_hall h) (one h2 (.n (one h4 .nil))))
theorem BJ.up {M : Mm} {H0 H H' : Hp} {n : Nat} {h : Hall} {p : Pw} {l : List Int} {σ : L2.St} (x : BJ w K M H0 n h p l σ H) (e : Ex H H') : BJ w K M H0 n h p l σ H' := ⟨x.ex.trans (.of e), x.lm.up e, let ⟨q, vs, L, a, b⟩ := x.li; ⟨q, vs, L.up e, a, b⟩⟩
theorem BJ.lc3 {M : Mm} {H0 H : Hp} {n : Nat} {h : Hall} {p : Pw} {l : List Int} {σ : L2.St} (x : BJ w K M H0 n h p l σ H) : Lc w K H σ [none, some h.enc, some (.str p.str), some (.list (l.map .int)), none] := by
  obtain ⟨q, vs, L, _⟩ := x.li
  exact x.lm.lc.li L
theorem isNested (p : Pw) : PyData.eqv (.str p.str) (.str "nested") = true → p = .nested := by
  rw [eqv_str]
  cases p with
  | nested => intro _; rfl
  | apart => intro h; exact absurd h (by decide)
  | kept => intro h; exact absurd h (by decide)
theorem notNested (p : Pw) : PyData.eqv (.str p.str) (.str "nested") = false → p ≠ .nested := by
  rintro h rfl
  rw [eqv_str, show Pw.nested.str = ("nested" : Str) from rfl, decide_eq_true rfl] at h
  cases h
theorem ok_law_bare (T : Fx K mg) : OkF P w K mg base 3 "_law_bare" ["_law_m", "_law_yard_here"] (spM w K 1 5 R_bare) := by
  refine mk_okM T 45 rfl sc_law_bare rfl (fun _ _ _ _ _ _ us hl => match us, hl with | [_, _], _ => rfl) rfl (by exact lle rfl) fun cdv A outer sh Hc E hr dl Φ M n hR _ hc σ0 H0 L0 e0 ms0 => ?_
  obtain ⟨h, ho, h3, rfl, rfl⟩ := hR
  have s1 := ho.s1
  have s6 := ho.s6
  have n1 := ho.n1
  have none4 : ∀ d, (none : Option PyData) = some d → pure d = true := fun d e => nomatch e
  have pu0 : PuA (bds5 h none none) := bds5_pu none4 none4
  refine hs_cons (M := fun σ H => ∃ p : Pw, ExM M H0 H ∧ LM w K M 0 (n + 1) (bds5 h (some (.str p.str)) none) σ H)
    (hm_asg (M := M) (t := 0) (n := n) (n1 := n + 1) (ds := bds5 h none none) 2 sc_law_bare.nd (em_pick pu0 (am_cons pu0 (em_d pd_str (pure_str _)) (am_cons pu0 (em_d pd_str (pure_str _)) (am_cons pu0 (em_d pd_str (pure_str _)) am_nil))) (em_call 0 (ok_law_draw T) hr ⟨3, by decide, by decide, rfl, rfl⟩ (ad_cons pd_int ad_nil) (by omega)) (by exact lle rfl)) (fun σ H q => by obtain ⟨rfl, rfl⟩ := q; exact ⟨e0, ms0, L0⟩) (fun σ H v H' d q e m hΦ hp dv => ?_)) ?_
  · obtain ⟨rfl, rfl⟩ := q
    obtain ⟨k, Ψ, hk, hd⟩ := hΦ
    have lm : LM w K M 0 n (bds5 h none none) σ H := ⟨e0, ms0, L0⟩
    have lm1 := (lm.go pu0 e m).set (i := 2) (by decide) dv
    match k, hk with
    | 0, hk => cases hk; cases hd; exact ⟨.apart, e, lm1⟩
    | 1, hk => cases hk; cases hd; exact ⟨.nested, e, lm1⟩
    | 2, hk => cases hk; cases hd; exact ⟨.kept, e, lm1⟩
  refine hs_ex fun p => ?_
  have pu2 : PuA (bds5 h (some (.str p.str)) none) := bds5_pu (fun d e => by cases e; exact pure_str _) none4
  refine hs_cons (M := fun σ H => ∃ l, LOk h l ∧ BJ w K M H0 (n + 4) h p l σ H) ?_ ?_
  · refine ps_imp (asg_lcM (M := M) (t := 0) (n := n + 1) (n1 := n + 1) (c := 1) (B := 3) (A := fun d => pure d = true) (Φ := IntB (h.seats.toNat + 1)) (ds := bds5 h (some (.str p.str)) none) (Ξ := fun xs => xs = h.fares.map .int) 3 4 (by decide) pu2 (by decide) (fun xs e => by subst e; exact ⟨by rw [List.length_map]; exact h3, fun x hx => by obtain ⟨a, _, rfl⟩ := List.mem_map.mp hx; exact pure_int a⟩) rfl sc_law_bare.nd (wm_tup (pd_ix (pd_name 1) pd_int rfl) (pureT _)) (blkOk_by (N := N_law_bare) (sc := defScope (top 82)) (by decide +kernel)) (fun _ _ _ _ _ => pg_name sc_law_bare.nd rfl (.inl rfl)) (fun i a hi ha _ _ _ _ _ => ?_)) fun D σ H q => ?_
    · exact em_le (em_call 0 (ok_law_draw T) hr ⟨h.seats.toNat + 1, by omega, by omega, rfl, rfl⟩ (ad_cons (pd_eq (pd_add (pd_ix (pd_name 1) pd_int rfl) pd_int) (by rw [Int.natCast_add, Int.toNat_of_nonneg (by omega)]; rfl)) ad_nil) (by omega)) (by omega)
    · obtain ⟨⟨ex, lm⟩, hN, _⟩ := q
      refine ⟨lm, fun r vs H' dl e m hr0 hr1 hd hΨ hpd => hN _ _ ?_⟩
      obtain ⟨hB, xs, rfl, hlen⟩ := hΨ
      obtain ⟨l, rfl, hl⟩ := intsB hB
      rw [List.length_map, List.length_map] at hlen
      have h0 := exM_none ex lm.ms hr0
      refine ⟨l, ⟨hlen, fun x hx => by have := hl x hx; omega⟩, ex.trans e, ⟨set_ne (by decide) lm.m0, m.le (by omega), ?_⟩, r, vs, ⟨set_eq (by rw [lm.lc.1]; exact lle rfl), hr1, hd⟩, h0, lm.ms.off hr0⟩
      exact ((lm.go pu2 e m).lc).un 3 _
  · refine hs_ex fun l => ?_
    refine hs_cons (M := fun σ H => ∃ l', LOk h l' ∧ (p = .nested → l'.Pairwise (· ≤ ·)) ∧ BJ w K M H0 (n + 5) h p l' σ H) ?_ ?_
    · refine hs_if (ds := bds5 h (some (.str p.str)) none) (pt_eqS (pd_name 2) pd_str) (fun σ H q => q.2.lm.lc) (fun σ H H' q e => ⟨q.1, q.2.up e⟩) (fun hb => ?_) (fun hb => ?_)
      · refine hs_pre fun σ1 H1 q1 => ?_
        obtain ⟨lo, y⟩ := q1
        have lo2 : LOk h (l.mergeSort fun a b => decide (a ≤ b)) := ⟨by rw [(sort_perm l).length_eq]; exact lo.len, fun x hx => lo.rng x ((sort_perm l).mem_iff.mp hx)⟩
        have hup := sort_up l
        refine hs_cons (M := BJ w K M H0 (n + 4) h p (l.mergeSort fun a b => decide (a ≤ b))) (hs_asgO (ds := [none, some h.enc, some (.str p.str), some (.list (l.map .int)), none]) 3 sc_law_bare.nd (po_sortedI (t := false) (ns := l) T.f_sorted (by rw [lo.len]; omega) (sort_perm l) (sort_up l) (pd_name 3)) (fun σ H q => by obtain ⟨rfl, rfl⟩ := q; exact y.lc3) (fun σ H H1 v H' q e o => ?_)) ?_
        · obtain ⟨rfl, rfl⟩ := q
          obtain ⟨e2, r, vs, rfl, hr0, hr1, hd⟩ := o
          have hn0 := ex_none e hr0
          have lm := (y.lm.up e).up e2
          exact ⟨(y.ex.trans (.of e)).trans (.of e2), ⟨set_ne (by decide) lm.m0, lm.ms, lm.lc.un 3 _⟩, r, vs, ⟨set_eq (by rw [lm.lc.1]; exact lle rfl), hr1, hd⟩, exM_none y.ex y.lm.ms hn0, y.lm.ms.off hn0⟩
        generalize l.mergeSort (fun a b => decide (a ≤ b)) = s at lo2 hup
        refine hs_pre fun σ2 H2 y2 => ?_
        have hsl := lo2.len
        have hat : atI (s.map PyData.int) (-1) = some (.int (s.getD (s.length - 1) 0)) := by
          rw [atI_last _ (by intro e; have := congrArg List.length e; rw [List.length_map] at this; simp at this; rw [this] at hsl; simp at hsl; omega), List.getLast?_eq_getElem?, List.length_map, List.getElem?_map, List.getElem?_eq_getElem (by omega : s.length - 1 < s.length), List.getD_eq_getElem?_getD, List.getElem?_eq_getElem (by omega : s.length - 1 < s.length)]
          rfl
        have hmem : s.getD (s.length - 1) 0 ∈ s := by
          rw [List.getD_eq_getElem?_getD, List.getElem?_eq_getElem (by omega : s.length - 1 < s.length)]
          exact List.getElem_mem _
        have hmax : ∀ z ∈ s, z ≤ s.getD (s.length - 1) 0 := fun z hz => by
          obtain ⟨j, hj, rfl⟩ := List.mem_iff_getElem.mp hz
          rw [List.getD_eq_getElem?_getD, List.getElem?_eq_getElem (by omega : s.length - 1 < s.length)]
          show s[j] ≤ s[s.length - 1]
          by_cases hjk : j = s.length - 1
          · subst hjk; exact Int.le_refl _
          · exact List.pairwise_iff_getElem.mp hup j (s.length - 1) hj (by omega) (by omega)
        refine hs_one (ps_imp (ps_asg (em_pickD (M := M) (t := 0) (n := n + 4) (n1 := n + 4 + 1) (ds := bds5 h (some (.str p.str)) none) (ds2 := [none, some h.enc, some (.str p.str), some (.list (s.map .int)), none]) (dl := [.int (s.getD (s.length - 1) 0), .int h.seats]) (ad_cons (pd_ixL (pd_name 3) (pd_neg pd_int) hat) (ad_cons (pd_ix (pd_name 1) pd_int rfl) ad_nil)) rfl (em_call 0 (ok_law_draw T) hr ⟨2, by decide, by decide, rfl, rfl⟩ (ad_cons pd_int ad_nil) (by omega)) (by exact lle rfl))
          (pg_sub (pe_var (i := 3) rfl (.inl rfl) (by decide) (by decide)) (pd_neg (ds := bds5 h (some (.str p.str)) none) (i := 1) pd_int) set_list (by intro _; rfl)) rfl rfl) fun D σ H q => ?_)
        obtain ⟨⟨rfl, rfl⟩, hN, _⟩ := q
        refine ⟨y2.lc3, y2.lm, fun v H' d e m hd dv => ?_⟩
        obtain ⟨r, vs, L, h0r, off⟩ := y2.li
        have L1 := L.exM (ints_pu s) off.m off.g y2.lm.ms e
        refine ⟨_, L1.slot, (y2.lm.go pu2 e m).lc, fun u H3 e3 du => ?_⟩
        cases du
        have hvl : vs.length = s.length := by rw [dpa_len L.data, List.length_map]
        have L3 := L1.up e3
        have m3 := m.up e3
        refine ⟨r, vs, (-1 : Int), s.length - 1, rfl, rfl, L3.here, by unfold ixN; rw [if_neg (by omega), if_pos (by omega)]; congr 1; omega, hN _ _ ?_⟩
        obtain ⟨x, rfl, hx0, hxm⟩ : ∃ x : Int, d = .int x ∧ (0 ≤ x ∧ x ≤ h.seats) ∧ ∀ z ∈ s, z ≤ x := by
          rcases List.mem_cons.mp hd with rfl | hd
          · exact ⟨_, rfl, lo2.rng _ hmem, hmax⟩
          · rw [List.mem_singleton.mp hd]
            exact ⟨_, rfl, ⟨by omega, Int.le_refl _⟩, fun z hz => (lo2.rng z hz).2⟩
        have al : AtLst r H3 (upd H3 r (.lst (vs.set (s.length - 1) v))) := ⟨⟨_, L3.here⟩, fun b hb => upd_ne hb⟩
        refine ⟨s.set (s.length - 1) x, ⟨by rw [List.length_set]; exact hsl, fun z hz => ?_⟩, fun _ => set_last_up hup hxm (by omega), ((y2.ex.trans e).trans (.of e3)).put h0r, ⟨y2.lm.m0, (m3.put off).le (by omega), ?_⟩, r, vs.set (s.length - 1) v, ⟨L3.slot, upd_same, ?_⟩, h0r, off⟩
        · rcases List.mem_or_eq_of_mem_set hz with hz | rfl
          · exact lo2.rng z hz
          · exact hx0
        · exact ((y2.lm.go pu2 e m).lc.up e3).upT pu2.get al.exT
        · rw [List.map_set]
          exact dpa_set ((dv.up e3).upT (pure_int x) al.exT) _ (dpa_upT al.exT _ (ints_pu s) L3.data)
      · refine hs_conseq hs_nil (fun _ _ q => q) fun σ H q => ⟨l, q.1, fun e => absurd e (notNested p hb), q.2.ex, q.2.lm.le (by omega), q.2.li⟩
    · refine hs_ex fun l' => hs_pre fun σ1 H1 q1 => ?_
      obtain ⟨lo, hu, y⟩ := q1
      refine hs_one (hs_ret (ds := [none, some h.enc, some (.str p.str), some (.list (l'.map .int)), none]) (pd_tup (ad_cons (pd_name 2) (ad_cons (pd_tuple T.f_tuple (pd_name 3) (.inl rfl)) ad_nil)) (by exact lle rfl)) (fun σ H q => by obtain ⟨rfl, rfl⟩ := q; exact y.lc3) (fun σ H v H' q e dv => ?_))
      obtain ⟨rfl, rfl⟩ := q
      exact ⟨_, y.ex.trans (.of e), y.lm.ms.up e, ⟨p, l', ⟨lo.len, lo.rng, fun e => pairwise_zip (hu e)⟩, rfl⟩, pure_ru (.plain p l'), dv⟩
end
end G33
set_option Elab.async false
set_option linter.all false
set_option maxRecDepth 100000
set_option maxHeartbeats 4000000
namespace G33
open PySem PySem.Spec PyProof.Rows L2
theorem ds_same {ds : Ds} {i : Nat} {o : Option PyData} (h : ds[i]? = some o) : ds.set i o = ds := by
  refine List.ext_getElem? fun j => ?_
  by_cases e : i = j
  · subst e
    rw [List.getElem?_set_self (List.getElem?_eq_some_iff.mp h).1, h]
  · rw [List.getElem?_set_ne e]
section
variable {X : Cx} {M : Mm} {t n n1 n' : Nat} {ds : Ds} {Φ Ψ : Pd} {d0 : PyData} {c e : Expr} {pos pos' p : Pos} {x : Str} {rest : List Stmt}
/-- if c: x = e, where x held its like -/
theorem sm_ifkeep {k : Bool} (i : Nat) (hit : i ≠ t) (hp : PuA ds) (hN : X.N.Nodup) (h0 : ds[i]? = some (some d0)) (hΨ : Ψ d0) (hp0 : pure d0 = true) (hc : PT X c (ttD X.w X.K ds k)) (hle : n ≤ n1) (he : PE X e (teM X.w X.K M t ds n n1 Ψ)) (hr : ∀ d, Ψ d → pure d = true → PSs X rest (tRM X.w X.K M t (ds.set i (some d)) n1 n' Φ)) (hi : X.N[i]? = some x := by rfl) (hx : Loc X.env.scope x := by first | exact .inl rfl | exact .inr rfl)
    (hs : swapsWith e (some (.Name x pos')) pos.line X.env = Pure.pure false := by rfl) (hf : X.fn x = true ∨ X.env.scope.names.lookup x = some .local := by first | exact .inl rfl | exact .inr rfl) : PSs X (.If c [.Assign [.Name x pos'] e pos] [] p :: rest) (tRM X.w X.K M t ds n n' Φ) :=
  sm_ifasg i hit hp hN hc hle (fun _ => he) (fun _ => hr) (fun _ => by have := hr d0 hΨ hp0; rw [ds_same h0] at this; exact this) hi hx hs hf
end
def DrawnIn (h : Hall) (j : Nat) : Pd := fun d => ∃ r : Ru, r.In h ∧ r.deep ≤ j ∧ r.size ≤ 2 * j + 1 ∧ d = r.enc
def DrawnRule (h : Hall) : Pd := fun d => ∃ r : Ru, RuOk h r ∧ d = r.enc
theorem DrawnBare.in_ {h : Hall} {d : PyData} (x : DrawnBare h d) : DrawnIn h 0 d := let ⟨p, l, lo, e⟩ := x; ⟨.plain p l, lo, Nat.le_refl _, Nat.le_refl _, e⟩
theorem DrawnIn.le {h : Hall} {j k : Nat} {d : PyData} (x : DrawnIn h j d) (hjk : j ≤ k) : DrawnIn h k d := let ⟨r, a, b, c, e⟩ := x; ⟨r, a, by omega, by omega, e⟩
section
variable {P : Program} {w : World} {K : PySem.W.Frag} {mg : Str → Option Value} {base : Heap}
abbrev N_law_book : List Str := ["_law_m", "_law_yard_here", "_law_pick", "_law_found"]
theorem sc_law_book : FnScope N_law_book ["_law_m", "_law_yard_here"] (defScope (top 83)) := ⟨rfl, rfl, rfl, by decide +kernel, rfl, by decide +kernel, by decide +kernel⟩
def R_book : List PyData → Pd → Prop := fun dl Φ => ∃ h : Hall, h.Ok ∧ h.fares.length ≤ 3 ∧ dl = [h.enc] ∧ Φ = DrawnRule h
theorem ok_law_book (T : Fx K mg) : OkF P w K mg base 4 "_law_book" ["_law_m", "_law_yard_here"] (spM w K 1 30 R_book) := by
  refine mk_okR T 46 rfl sc_law_book rfl (fun _ _ _ _ _ _ us hl => match us, hl with | [_, _], _ => rfl) rfl (by exact lle rfl) fun cdv A outer sh Hc E hr dl Φ M n hR _ hc => ?_
  obtain ⟨h, ho, h3, rfl, rfl⟩ := hR
  refine sm_asg (Ψ := IntB 6) (n1 := n + 1) 2 (by decide) (.n (.p (pure_hall h) (.n (.n .nil)))) sc_law_book.nd (em_call 0 (ok_law_draw T) hr ⟨6, by decide, by decide, rfl, rfl⟩ (ad_cons pd_int ad_nil) (by omega)) fun d hd _ => ?_
  obtain ⟨pick, hpick, rfl⟩ := hd
  refine sm_asg (Ψ := DrawnIn h 0) (n1 := n + 1 + 5) 3 (by decide) (.n (.p (pure_hall h) (.p (pure_int _) (.n .nil)))) sc_law_book.nd (em_imp (em_call 0 (ok_law_bare T) hr ⟨h, ho, h3, rfl, rfl⟩ (ad_cons (pd_name 1) ad_nil) (by omega)) fun d => DrawnBare.in_) fun d1 hd1 hp1 => ?_
  obtain ⟨r1, a1, b1, c1, rfl⟩ := hd1
  have pu : ∀ r : Ru, PuA [none, some h.enc, some (.int (pick : Nat)), some r.enc] := fun r => .n (.p (pure_hall h) (.p (pure_int _) (.p (pure_ru r) .nil)))
  have word : ∀ (d : PyData), (∃ (k : Nat) (Φ : Pd), ([(· = PyData.str "all"), (· = PyData.str "any")] : List Pd)[k]? = some Φ ∧ Φ d) → ∃ b : Bool, d = .str (if b then "all" else "any") := fun d hd => by
    obtain ⟨k, Φ, hk, hd⟩ := hd
    match k, hk with
    | 0, hk => cases hk; exact ⟨true, hd⟩
    | 1, hk => cases hk; exact ⟨false, hd⟩
  have fee : ∀ (d : PyData), (∃ (k : Nat) (Φ : Pd), ([(· = PyData.int 0), (· = PyData.int 1), IntB 12, (· = PyData.int 99)] : List Pd)[k]? = some Φ ∧ Φ d) → ∃ f : Int, d = .int f ∧ 0 ≤ f ∧ f ≤ 99 := fun d hd => by
    obtain ⟨k, Φ, hk, hd⟩ := hd
    match k, hk with
    | 0, hk => cases hk; exact ⟨0, hd, by decide, by decide⟩
    | 1, hk => cases hk; exact ⟨1, hd, by decide, by decide⟩
    | 2, hk => cases hk; obtain ⟨v, hv, e⟩ := hd; exact ⟨v, e, by omega, by omega⟩
    | 3, hk => cases hk; exact ⟨99, hd, by decide, by decide⟩
  refine sm_ifkeep (Ψ := DrawnIn h 1) (d0 := r1.enc) (n1 := n + 1 + 5 + 1 + 5) 3 (by decide) (pu r1) sc_law_book.nd rfl ⟨r1, a1, by omega, by omega, rfl⟩ (pure_ru r1) (pt_inT (pd_name 2) (pd_tup (ad_cons pd_int (ad_cons pd_int (ad_cons pd_int ad_nil))) (by exact lle rfl))) (by omega)
    (em_imp (em_tup (am_cons (pu r1) (em_imp (em_pick (pu r1) (am_cons (pu r1) (em_d pd_str (pure_str _)) (am_cons (pu r1) (em_d pd_str (pure_str _)) am_nil)) (em_call 0 (ok_law_draw T) hr ⟨2, by decide, by decide, rfl, rfl⟩ (ad_cons pd_int ad_nil) (by omega)) (by exact lle rfl)) word) (am_cons (pu r1) (em_d (pd_name 3) (pure_ru r1)) (am_cons (pu r1) (em_call 0 (ok_law_bare T) hr ⟨h, ho, h3, rfl, rfl⟩ (ad_cons (pd_name 1) ad_nil) (by omega)) am_nil))) (by exact lle rfl)) fun d hd => ?_) fun d2 hd2 hp2 => ?_
  · obtain ⟨dl, rfl, f⟩ := hd
    match dl, f with
    | [x1, x2, x3], ⟨⟨b, e1⟩, e2, ⟨p, l, lo, e3⟩, _⟩ =>
      subst e1 e2 e3
      refine ⟨.two b r1 (.plain p l), ⟨a1, lo⟩, ?_, ?_, rfl⟩
      · show 1 + max r1.deep 0 ≤ 1; omega
      · show 1 + r1.size + 1 ≤ 3; omega
  obtain ⟨r2, a2, b2, c2, rfl⟩ := hd2
  refine sm_ifkeep (Ψ := DrawnIn h 2) (d0 := r2.enc) (n1 := n + 1 + 5 + 1 + 5 + 1 + 5) 3 (by decide) (pu r2) sc_law_book.nd rfl ⟨r2, a2, by omega, by omega, rfl⟩ (pure_ru r2) (pt_eqS (pd_name 2) pd_int) (by omega)
    (em_imp (em_tup (am_cons (pu r2) (em_imp (em_pick (pu r2) (am_cons (pu r2) (em_d pd_str (pure_str _)) (am_cons (pu r2) (em_d pd_str (pure_str _)) am_nil)) (em_call 0 (ok_law_draw T) hr ⟨2, by decide, by decide, rfl, rfl⟩ (ad_cons pd_int ad_nil) (by omega)) (by exact lle rfl)) word) (am_cons (pu r2) (em_call 0 (ok_law_bare T) hr ⟨h, ho, h3, rfl, rfl⟩ (ad_cons (pd_name 1) ad_nil) (by omega)) (am_cons (pu r2) (em_d (pd_name 3) (pure_ru r2)) am_nil))) (by exact lle rfl)) fun d hd => ?_) fun d3 hd3 hp3 => ?_
  · obtain ⟨dl, rfl, f⟩ := hd
    match dl, f with
    | [x1, x2, x3], ⟨⟨b, e1⟩, ⟨p, l, lo, e3⟩, e2, _⟩ =>
      subst e1 e2 e3
      refine ⟨.two b (.plain p l) r2, ⟨lo, a2⟩, ?_, ?_, rfl⟩
      · show 1 + max 0 r2.deep ≤ 2; omega
      · show 1 + 1 + r2.size ≤ 5; omega
  obtain ⟨r3, a3, b3, c3, rfl⟩ := hd3
  refine sm_ret (em_le (em_if (n1 := n + 1 + 5 + 1 + 5 + 1 + 5 + 1 + 1) (pt_gt (pd_name 2) pd_int) (fun _ => em_imp (em_tup (am_cons (pu r3) (em_d pd_str (pure_str _)) (am_cons (pu r3) (em_d (pd_name 3) (pure_ru r3)) (am_cons (pu r3) (em_imp (em_pick (pu r3) (am_cons (pu r3) (em_d pd_int (pure_int _)) (am_cons (pu r3) (em_d pd_int (pure_int _)) (am_cons (pu r3) (em_call 0 (ok_law_draw T) hr ⟨12, by decide, by decide, rfl, rfl⟩ (ad_cons pd_int ad_nil) (by omega)) (am_cons (pu r3) (em_d pd_int (pure_int _)) am_nil)))) (em_call 0 (ok_law_draw T) hr ⟨4, by decide, by decide, rfl, rfl⟩ (ad_cons pd_int ad_nil) (by omega)) (by exact lle rfl)) fee) am_nil))) (by exact lle rfl)) fun d hd => ?_) (fun _ => em_le (em_imp (em_d (pd_name 3) (pure_ru r3)) fun d hd => ?_) (by omega))) (by omega))
  · obtain ⟨dl, rfl, f⟩ := hd
    match dl, f with
    | [x1, x2, x3], ⟨e1, e2, ⟨f, e3, f0, f1⟩, _⟩ =>
      subst e1 e2 e3
      refine ⟨.oust r3 f, ⟨⟨a3, f0, f1⟩, ?_, ?_⟩, rfl⟩
      · show 1 + r3.deep ≤ 3; omega
      · show 1 + r3.size ≤ 7; omega
  · refine ⟨r3, ⟨?_, by omega, by omega⟩, hd⟩
    cases r3 with
    | plain p l => exact a3
    | two b r s => exact a3
    | oust r f => exact a3.elim
end
end G33
set_option Elab.async false
set_option linter.all false
set_option maxRecDepth 100000
set_option maxHeartbeats 4000000
namespace G33
open PySem PySem.Spec PyProof.Rows L2
theorem mk_okS {P : Program} {w : World} {K : PySem.W.Frag} {mg : Str → Option Value} {base : Heap} {Nm ps : List Str} {k : Nat} {sp : Sp} (T : Fx K mg) (i : Nat) {x : Str} {params : Arguments} {body : List Stmt} {scope : Scope}
    (hd : fn[i]? = some ⟨(x, none), x, x, params, body, scope, [], []⟩) (S : FnScope Nm ps scope) (hg : fa[i]? = some (.glo x))
    (hb : ∀ (kV doc pm : Value) (an : Option Addr) (cdv ct : Value) (us : List Value), us.length = ps.length → bindArgs (PySem.W.fnOf x x params body scope .none kV doc pm an cdv ct) ⟨us, []⟩ = Pure.pure (ps.zip us)) (hl : ∀ vs H Q E, sp vs H Q E → vs.length = ps.length)
    (h : ∀ (cdv : Value) (A : Around) (outer : List Env) (s : Shared) (H : Hp) (E : XK), Room k (A.deeper (envOfC x scope s.heap.objs.size (He.ga K x) cdv)) → ∀ (vs : List V) Q, sp vs H Q E → ∃ t : TS, PSs (cxOf CX0 P w K mg base Nm x scope (He.ga K x) cdv A outer s H E).nox body t ∧ t { nx := fun _ H' => Q .non H', rt := Q } (L2.start Nm vs) H) : OkF P w K mg base (k + 1) x ps sp := by
  obtain ⟨fd, F⟩ := T.says.def_ i hd
  refine ⟨⟨fd, F.ok S hl fun cdv A outer s H vs Q E hr hsp => ?_, FunD.bindsN F hb⟩, T.glo i hg, F.kp⟩
  obtain ⟨t, h1, h2⟩ := h cdv A outer s H E hr vs Q hsp
  exact ⟨t, h1.nox, h2⟩
section
variable {P : Program} {w : World} {K : PySem.W.Frag} {mg : Str → Option Value} {base : Heap}
abbrev N_law_of : List Str := ["_law_m", "_law_some"]
theorem sc_law_of : FnScope N_law_of ["_law_m", "_law_some"] (defScope (top 80)) := ⟨rfl, rfl, rfl, by decide +kernel, rfl, by decide +kernel, by decide +kernel⟩
def spOf (K : PySem.W.Frag) : Sp := fun vs H Q _ => ∃ M n q ws xs, vs = [.ref M.m, .ref q] ∧ H q = some (.lst ws) ∧ DpAll K H ws xs ∧ pureAll xs = true ∧ 1 ≤ xs.length ∧ xs.length ≤ 1000 ∧ Off M q ∧ n + 1 ≤ 100000 ∧ MSt M n H ∧
  ∀ v H' d, ExM M H H' → MSt M (n + 1) H' → d ∈ xs → Dp K H' v d → Q v H'
theorem ok_law_of (T : Fx K mg) : OkF P w K mg base 3 "_law_of" ["_law_m", "_law_some"] (spOf K) := by
  refine mk_okS T 43 rfl sc_law_of rfl (fun _ _ _ _ _ _ us hl => match us, hl with | [_, _], _ => rfl) (fun vs H Q E h => by obtain ⟨_, _, _, _, _, rfl, _⟩ := h; rfl) fun cdv A outer sh H E hr vs Q h => ?_
  obtain ⟨M, n, q, ws, xs, rfl, hq, hd, hp, h1, h2, off, hc, ms, g⟩ := h
  refine ⟨_, pss_one (ps_ret (pe_ix ix_list (pe_var (i := 1) rfl (Or.inl rfl) (by decide) (by decide)) (em_call (M := M) (n := n) (ds := [none, some (.list xs)]) 0 (ok_law_draw T) hr ⟨xs.length, h1, by omega, rfl, rfl⟩ (ad_cons (pd_lenL T.f_len (pd_name 1)) ad_nil) hc) (fun _ _ => rfl))), ?_⟩
  refine ⟨.ref q, rfl, ⟨rfl, ms, rfl, fun i d e => ?_⟩, fun v H' d e m hi _ dv => ?_⟩
  · match i, e with
    | 1, e => cases e; exact ⟨.ref q, rfl, .inl (dpa_li hq hd)⟩
  · obtain ⟨j, hj, rfl⟩ := hi
    cases dv
    obtain ⟨u, hu, du⟩ := dpa_get hd (List.getElem?_eq_getElem hj)
    refine ⟨q, ws, (j : Int), u, rfl, rfl, .inl (.inl (e _ _ off.m off.g hq)), by rw [atI_nat _ _ (by rw [dpa_len hd]; exact hj)]; exact hu, g u H' _ e m (List.getElem_mem hj) ?_⟩
    exact du.upT (pureAll_at hp (List.getElem?_eq_getElem hj)) (e.exT ms)
end
end G33
set_option Elab.async false
set_option linter.all false
set_option maxRecDepth 100000
set_option maxHeartbeats 4000000
namespace G33
open PySem PySem.Spec PyProof.Rows L2
/-- for .. in ..: the walk, the target and the invariant as one likes -/
theorem hp_forGG {X : Cx} {ι : Type} {wi : TI} {g : TG} {tg iter : Expr} {body : List Stmt} {pos : Pos} {P N : L2.St → Hp → Prop} {R : V → Hp → Prop} (items : List ι) (en : ι → PyData) (I : Nat → L2.St → Hp → Prop) (B : Nat → ι → L2.St → Hp → Prop)
    (hx : ∀ e o, ¬ X.xe e o) (hc : X.calm = true) (hi : PI X tg iter wi) (hg : PG X tg g)
    (hW : ∀ σ H (R' : It → Hp → Prop), P σ H → (∀ J H', (∀ i σ1 H1, I i σ1 H1 → Walks X.K J H1 (items.map en)) → I 0 σ H' → R' J H') → wi σ H R') (hn : ∀ σ H, I items.length σ H → N σ H)
    (hgB : ∀ i a σ H u H2 (Q : L2.St → Hp → Prop), items[i]? = some a → I i σ H → Ex H H2 → Dp X.K H2 u (en a) → (∀ σ2, B i a σ2 H2 → Q σ2 H2) → g u σ H2 Q)
    (hb : ∀ i a, items[i]? = some a → PSs X body (tH (B i a) (I (i + 1)) R))
    (hs : ∀ z, foldedSetIterable iter X.env z = Pure.pure z := by intro _; rfl) : PS X (.For tg iter body [] pos) (tH P N R) := by
  have hp : PassesOwn (model X.prog X.w) X.A X.env X.xe := fun e o z => absurd z (hx e o)
  refine ps_imp (ps_for hp hc hi hg (hf_of (α := Nat × ι) (ok := fun a => items[a.1]? = some a.2) (B := fun a => B a.1 a.2) (M := fun a => I (a.1 + 1)) (R := R) fun a k => hb a.1 a.2 k) hs) fun D σ H q => ?_
  refine hW σ H _ q.1 fun J H' wk i0 => ⟨fun i m σ1 H1 => m = items.length - i ∧ i ≤ items.length ∧ I i σ1 H1, ⟨items.length, rfl, Nat.zero_le _, i0⟩, ?_⟩
  rintro i m σ1 H1 ⟨rfl, hi', i1⟩
  obtain ⟨wg, ws⟩ := wk i σ1 H1 i1
  by_cases hlt : i < items.length
  · refine .inr ?_
    have hit : items[i]? = some items[i] := List.getElem?_eq_getElem hlt
    obtain ⟨g1, g2⟩ := wg i (en items[i]) (by rw [List.getElem?_map, hit]; rfl)
    refine ⟨g1, fun σ' H' => I (i + 1) σ' H', fun σ' H' z => ⟨items.length - (i + 1), by omega, rfl, by omega, z⟩, fun u H2 y => ?_⟩
    obtain ⟨e2, d2⟩ := g2 u H2 y
    exact hgB i items[i] σ1 H1 u H2 _ hit i1 e2 d2 fun σ2 b2 => ⟨(i, items[i]), hit, b2, fun _ _ z => z, q.2.2⟩
  · have ei : i = items.length := by omega
    subst ei
    rw [List.length_map] at ws
    exact .inl ⟨ws, q.2.1 _ _ (hn _ _ i1)⟩
theorem int64 (k : Nat) : PyData.int (((k : Nat) : Int) % 64) = .int ((k % 64 : Nat) : Int) := rfl
def wiEn (K : PySem.W.Frag) (t : Nat) (xs : List PyData) : TI := fun σ H R => ∃ a, σ[t]? = some (some (.ref a)) ∧ Dp K H (.ref a) (.list xs) ∧ ∀ J, (∀ H1, Dp K H1 (.ref a) (.list xs) → Walks K J H1 (enumD xs)) → R J H
theorem wi_enumN {X : Cx} {f : Str} {xs : List PyData} {p p1 pos tpos : Pos} {elts : List Expr} {kk : Nat} (t : Nat) (hm : X.mg "enumerate" = none) (hN : X.N[t]? = some f := by rfl) (hv : Vis X.env.scope f := by first | exact Or.inl rfl | exact Or.inr (Or.inl rfl) | exact Or.inr (Or.inr rfl)) (hd : (f == ("__debug__" : Str)) = false := by decide) (hcd : (f == ("__classdict__" : Str)) = false := by decide)
    (hg : Gl X "enumerate" := by rfl) (h1 : starEach [.Name f p1] X.env = [(false, eval (.Name f p1) X.env)] := by rfl) : PI X (.Tuple elts kk tpos) (.Call (.Name "enumerate" p) [.Name f p1] [] pos) (wiEn X.K t xs) :=
  pi_imp (pi_enum hg hm (pa_cons (pe_var hN hv hd hcd) pa_nil h1) h1) fun σ H R q => by
    obtain ⟨a, e, d, k⟩ := q
    cases d with
    | lst hs hd =>
      refine ⟨_, e, a, _, rfl, hs, k _ fun H2 h2 => ?_⟩
      cases h2 with
      | lst hs hd =>
        refine ⟨fun i x hx => ?_, _, hs, by rw [dpa_len hd]; simp [enumD]⟩
        obtain ⟨d, hd1, rfl⟩ := enumD_get hx
        obtain ⟨v, hv, dv⟩ := dpa_get hd hd1
        refine ⟨⟨_, v, hs, hv⟩, fun u H3 y => ?_⟩
        obtain ⟨T, x', rfl, hT, rfl, y⟩ := y
        have z := y _ hs
        rw [hv] at z
        cases z
        exact dp_pair hT (.int _) dv
theorem asg_lc1N {X : Cx} {ι : Type} {ds : Ds} {elt iter : Expr} {ifs : List Expr} {scope : Scope} {pos spos p1 py : Pos} {x nm : Str} (t j : Nat) (items : List ι) (en : ι → PyData) (f : ι → Bool) (gq : ι → PyData) (hc : X.calm = true) (hN : X.N.Nodup) (hi : PI X (.Name x p1) iter (wiD X.w X.K ds (items.map en))) (ok : BlkOk X.N X.env.scope scope [(x, j)])
    (hg : ∀ s H C cl fp, PG (BX X scope s H C cl fp) (.Name x p1) (gName j)) (hp : ∀ a, a ∈ items → pure (gq a) = true) (hz : items.length ≤ 100000)
    (ht : ∀ a, a ∈ items → ∀ s H C cl fp, PTs (BX X scope s H C cl fp) ifs (ttD X.w X.K (ds.set j (some (en a))) (f a))) (he : ∀ a, a ∈ items → f a = true → ∀ s H C cl fp, PE (BX X scope s H C cl fp) elt (teD X.w X.K (ds.set j (some (en a))) (gq a)))
    (hy : X.N[t]? = some nm := by rfl) (hyl : X.env.scope.names.lookup nm = some .local := by rfl) (hsw : swapsWith (.ListComp elt [⟨.Name x p1, iter, ifs, 0⟩] scope pos) (some (.Name nm py)) spos.line X.env = Pure.pure true := by exact sw_true rfl rfl rfl (by decide +kernel)) (hs : ∀ z, foldedSetIterable iter X.env z = Pure.pure z := by intro _; rfl) :
    PS X (.Assign [.Name nm py] (.ListComp elt [⟨.Name x p1, iter, ifs, 0⟩] scope pos) spos) (tAsg (teO X.w X.K ds (oN X.K ((items.filter f).map gq))) (gName t)) :=
  ps_imp (ps_setLc hc hN hy hyl hsw hi ok hg (fun s H C cl fp => pts_U (X := BX X scope s H C cl fp) (dsf := fun a => ds.set j (some (en a))) fun a ha => ht a ha s H C cl fp) (fun s H C cl fp => pe_U (X := BX X scope s H C cl fp) fun a ha hf => he a ha hf s H C cl fp) hs) fun D σ H q =>
    lc_N hp hz (fun a _ v σ0 H Q L h k => g1_D L h k) q
theorem hs_asgLO {X : Cx} {ds : Ds} {O : Out} {st : Stmt} {t : Nat} {P N : L2.St → Hp → Prop} {R : V → Hp → Prop} (h : PS X st (tAsg (teO X.w X.K ds O) (gName t))) (hL : ∀ σ H, P σ H → Lc X.w X.K H σ ds) (hn : ∀ σ H H1 v H', P σ H → Ex H H1 → O H1 v H' → N (σ.set t (some v)) H') : PS X st (tH P N R) :=
  ps_imp h fun D σ H q => ⟨hL σ H q.1, fun H1 v H' e1 o => q.2.1 _ _ (hn σ H H1 v H' q.1 e1 o)⟩
section
variable {P : Program} {w : World} {K : PySem.W.Frag} {mg : Str → Option Value} {base : Heap}
abbrev N_law_folded : List Str := ["_law_script", "_law_n", "_law_found", "_law_cell"]
theorem sc_law_folded : FnScope N_law_folded ["_law_script"] (defScope (top 76)) := ⟨rfl, rfl, rfl, by decide +kernel, rfl, by decide +kernel, by decide +kernel⟩
def RX_folded (K : PySem.W.Frag) : List PyData → Out → Prop := fun dl O => ∃ ns : List Int, ns.length ≤ 63 ∧ dl = [.list (ns.map .int)] ∧ O = fun H v H' => ∃ cs : List Int, cs.length = 64 ∧ oN K (cs.map .int) H v H'
structure FI (w : World) (K : PySem.W.Frag) (H0 : Hp) (o1 o3 : Option PyData) (σ : L2.St) (H : Hp) : Prop where
  ex : Ex H0 H
  lc : Lc w K H σ [none, o1, none, o3]
  li : ∃ q vs, ∃ cs : List Int, LiA K H σ 2 q vs (cs.map .int) ∧ H0 q = none ∧ cs.length = 64
theorem FI.up {H0 H H' : Hp} {o1 o3 : Option PyData} {σ : L2.St} (x : FI w K H0 o1 o3 σ H) (e : Ex H H') : FI w K H0 o1 o3 σ H' := ⟨x.ex.trans e, x.lc.up e, let ⟨q, vs, cs, L, a, b⟩ := x.li; ⟨q, vs, cs, L.up e, a, b⟩⟩
theorem pu4 {o1 o3 : Option PyData} (h1 : ∀ d, o1 = some d → pure d = true) (h3 : ∀ d, o3 = some d → pure d = true) : PuA [none, o1, none, o3] := by
  have one : ∀ {o : Option PyData} {ds : Ds}, (∀ d, o = some d → pure d = true) → PuA ds → PuA (o :: ds) := fun {o ds} ho hd => by
    cases o with
    | none => exact .n hd
    | some d => exact .p (ho d rfl) hd
  exact .n (one h1 (.n (one h3 .nil)))
theorem pI {i : Int} : ∀ d, some (PyData.int i) = some d → pure d = true := fun d e => by cases e; exact pure_int _
theorem pN : ∀ d, (none : Option PyData) = some d → pure d = true := fun d e => nomatch e
theorem ok_law_folded (T : Fx K mg) : OkF P w K mg base 1 "_law_folded" ["_law_script"] (spX w K 1 (RX_folded K)) := by
  refine mk_okX T 39 rfl sc_law_folded rfl (fun _ _ _ _ _ _ us hl => match us, hl with | [_], _ => rfl) fun cdv A outer sh Hc E hr dl O hR _ => ?_
  obtain ⟨ns, hns, rfl, rfl⟩ := hR
  refine so_h fun σ0 H0 L0 => ?_
  obtain ⟨v0, e0, d0⟩ := L0.2 0 (.list (ns.map .int)) rfl
  have d0 := d0.dp rfl
  refine hs_cons (M := fun σ H => FI w K H0 none none σ H ∧ Lc w K H σ [some (.list (ns.map .int)), none, none, none] ∧ σ[0]? = some (some v0)) (hs_asgLO (ds := startD 4 [.list (ns.map .int)]) (t := 2) (asg_lc1N 2 1 (List.range 64) (fun k => .int (k : Nat)) (fun _ => true) (fun k => .int (17 + (k : Nat))) rfl sc_law_folded.nd (wd_eq (wd_range1 T.f_range pd_int (by decide)) rfl) (blkOk_by (N := N_law_folded) (sc := defScope (top 76)) (by decide +kernel)) (fun _ _ _ _ _ => pg_name sc_law_folded.nd rfl (.inl rfl)) (fun a ha => pure_int _) (by decide) (fun a ha _ _ _ _ _ => ptd_nil) (fun a ha hf _ _ _ _ _ => (pd_add pd_int (pd_name 1)))) (fun σ H q => by obtain ⟨rfl, rfl⟩ := q; exact L0) (fun σ H H1 v H' q e o => ?_)) ?_
  · obtain ⟨rfl, rfl⟩ := q
    obtain ⟨e2, r, vs, rfl, hr0, hr1, hd⟩ := o
    have ee := e.trans e2
    have L1 := L0.up ee
    refine ⟨⟨ee, (SubD.lc (a := [none, none, none, none]) (.skip (.same (.same (.same .nil)))) L1).un 2 _, r, vs, (List.range 64).map (fun k : Nat => 17 + ((k : Nat) : Int)), ⟨set_eq (by rw [L0.1]; exact lle rfl), hr1, ?_⟩, ex_none e hr0, by rw [List.length_map, List.length_range]⟩, L1.un 2 _, set_ne (by decide) e0⟩
    rw [filter_tt] at hd
    rw [List.map_map]
    exact hd
  have hv0 : ∃ a, v0 = .ref a := by
    cases d0 with
    | lst hs hd => exact ⟨_, rfl⟩
  obtain ⟨a0, rfl⟩ := hv0
  refine hs_cons (M := FI w K H0 none none) ?_ ?_
  · refine hp_forGG (g := gTup K 2 (gCons (gName 1) (gCons (gName 3) gNil))) ((List.range ns.length).zip ns) (fun p => .tuple [.int (p.1 : Nat), .int p.2])
      (fun i σ H => FI w K H0 none none σ H) (fun i a σ H => FI w K H0 (some (.int (a.1 : Nat))) (some (.int a.2)) σ H)
      nox_xe rfl (wi_enumN (xs := ns.map .int) 0 T.f_enumerate) (pg_tup rfl (pgs_cons (pg_name sc_law_folded.nd rfl (.inl rfl)) (pgs_cons (pg_name sc_law_folded.nd rfl (.inl rfl)) pgs_nil))) (fun σ H R' q c => ?_) (fun σ H q => q) (fun i a σ H u H2 Q hi q e du k => ?_) (fun i a hi => ?_)
    · refine ⟨a0, q.2.2, d0.up q.1.ex, fun J wk => c J H (fun i σ1 H1 hI => ?_) q.1⟩
      have := wk H1 (d0.up hI.ex)
      rw [enumD_ints] at this
      exact this
    · have y := q.up e
      cases du with
      | tup hs hd =>
        cases hd with
        | cons h1 hd =>
          cases hd with
          | cons h2 hd =>
            cases hd
            refine ⟨_, _, rfl, hs, rfl, _, _, rfl, _, _, rfl, rfl, k _ ⟨y.ex, (y.lc.set 1 h1).set 3 h2, ?_⟩⟩
            obtain ⟨q', vs, cs, L, a, b⟩ := y.li
            exact ⟨q', vs, cs, (L.set (by decide)).set (by decide), a, b⟩
    · refine hs_pre fun σ1 H1 y => ?_
      obtain ⟨q, vs, cs, L, h0, c64⟩ := y.li
      have hlt : a.1 % 64 < cs.length := by omega
      refine hs_one (hp_setL 2 (k := a.1 % 64) (d := .int ((cs.getD (a.1 % 64) 0 * 48271 + a.2) % 2147483647)) (ds := [none, some (.int (a.1 : Nat)), some (.list (cs.map .int)), some (.int a.2)]) (pd_eq (pd_mod (ds := [none, some (.int (a.1 : Nat)), some (.list (cs.map .int)), some (.int a.2)]) (i := (a.1 : Nat)) (j := 64) (pd_toInt T.f_int (pd_name 1)) pd_int (by decide)) (int64 a.1)) (pd_mod (pd_toInt T.f_int (pd_add (pd_mul (pd_ixL (d := .int (cs.getD (a.1 % 64) 0)) (pd_name 2) (pd_eq (pd_mod (ds := [none, some (.int (a.1 : Nat)), some (.list (cs.map .int)), some (.int a.2)]) (i := (a.1 : Nat)) (j := 64) (pd_toInt T.f_int (pd_name 1)) pd_int (by decide)) (int64 a.1)) (atI_ints cs _ hlt)) pd_int (.inr (by decide))) (pd_name 3))) pd_int (by decide)) (fun σ H q => by obtain ⟨rfl, rfl⟩ := q; exact y.lc.li L) (fun σ H q => ?_))
      obtain ⟨rfl, rfl⟩ := q
      refine ⟨q, vs, L.slot, L.here, by rw [dpa_len L.data, List.length_map]; exact hlt, fun v H1 e1 d1 => ?_⟩
      have L1 := L.up e1
      have al : AtLst q H1 (upd H1 q (.lst (vs.set (a.1 % 64) v))) := ⟨⟨_, L1.here⟩, fun b hb => upd_ne hb⟩
      refine ⟨Evl.Ex.mut (y.ex.trans e1) h0, ?_, q, vs.set (a.1 % 64) v, cs.set (a.1 % 64) ((cs.getD (a.1 % 64) 0 * 48271 + a.2) % 2147483647), ⟨L1.slot, upd_same, ?_⟩, h0, by rw [List.length_set]; exact c64⟩
      · exact (SubD.lc (a := [none, none, none, none]) (.same (.skip (.same (.skip .nil)))) (y.lc.up e1)).upT (pu4 pN pN).get al.exT
      · rw [List.map_set]
        exact dpa_set (d1.upT (pure_int _) al.exT) _ (dpa_upT al.exT _ (ints_pu cs) L1.data)
  refine hs_cons (M := FI w K H0 none none) ?_ ?_
  · refine hp_for1 (d := .none) (ds := [none, none, none, none]) 1 (rgD 1 64) .int (fun v i σ H => FI w K H0 none none σ H ∧ v = .non) (fun v i a σ H => FI w K H0 (some (.int a)) none σ H ∧ v = .non) nox_xe rfl sc_law_folded.nd (wv_range2 T.f_range pd_int pd_int (by decide)) (fun σ H q => q.lc) (fun σ H v H' q e dv => ⟨q.up e, by cases dv; rfl⟩) (fun v i σ H q => by rw [q.2]; exact .non) (fun v σ H q => q.1) (fun v i a σ H u H2 hi q e du => ?_) (fun v i a hi => ?_)
    · have y := q.1.up e
      refine ⟨⟨y.ex, y.lc.set 1 du, ?_⟩, q.2⟩
      obtain ⟨q', vs, cs, L, a, b⟩ := y.li
      exact ⟨q', vs, cs, L.set (by decide), a, b⟩
    · obtain ⟨m, rfl, hm0, hm1⟩ : ∃ m : Nat, a = ((m + 1 : Nat) : Int) ∧ m < 63 ∧ m + 1 < 64 := by
        have h1 := List.mem_of_getElem? hi
        unfold rgD at h1
        obtain ⟨z, hz, rfl⟩ := List.mem_map.mp h1
        have := List.mem_range.mp hz
        have h63 : ((64 : Int) - 1).toNat = 63 := rfl
        exact ⟨z, by omega, by omega, by omega⟩
      refine hs_pre fun σ1 H1 y => ?_
      obtain ⟨y, hv⟩ := y
      obtain ⟨q, vs, cs, L, h0, c64⟩ := y.li
      refine hs_one (hp_setL 2 (k := m + 1) (d := .int ((cs.getD (m + 1) 0 + cs.getD m 0 * 16807) % 2147483647)) (ds := [none, some (.int ((m + 1 : Nat) : Int)), some (.list (cs.map .int)), none]) (pd_name 1) (pd_mod (pd_toInt T.f_int (pd_add (pd_ixL (d := .int (cs.getD (m + 1) 0)) (pd_name 2) (pd_name 1) (atI_ints cs (m + 1) (by omega))) (pd_mul (pd_ixL (d := .int (cs.getD m 0)) (pd_name 2) (pd_eq (d := .int ((m : Nat) : Int)) (pd_sub (pd_name 1) pd_int) (congrArg PyData.int (by omega))) (atI_ints cs m (by omega))) pd_int (.inr (by decide))))) pd_int (by decide)) (fun σ H q => by obtain ⟨rfl, rfl⟩ := q; exact y.lc.li L) (fun σ H q => ?_))
      obtain ⟨rfl, rfl⟩ := q
      refine ⟨q, vs, L.slot, L.here, by rw [dpa_len L.data, List.length_map]; omega, fun v' H1 e1 d1 => ⟨?_, ?_⟩⟩
      · have L1 := L.up e1
        have al : AtLst q H1 (upd H1 q (.lst (vs.set (m + 1) v'))) := ⟨⟨_, L1.here⟩, fun b hb => upd_ne hb⟩
        refine ⟨Evl.Ex.mut (y.ex.trans e1) h0, ?_, q, vs.set (m + 1) v', cs.set (m + 1) ((cs.getD (m + 1) 0 + cs.getD m 0 * 16807) % 2147483647), ⟨L1.slot, upd_same, ?_⟩, h0, by rw [List.length_set]; exact c64⟩
        · exact (SubD.lc (a := [none, none, none, none]) (.same (.skip (.same (.same .nil)))) (y.lc.up e1)).upT (pu4 pN pN).get al.exT
        · rw [List.map_set]
          exact dpa_set (d1.upT (pure_int _) al.exT) _ (dpa_upT al.exT _ (ints_pu cs) L1.data)
      · exact hv
  · refine hs_one (ps_imp (ps_ret (pe_var (i := 2) rfl (Or.inl rfl) (by decide) (by decide))) fun D σ H q => ?_)
    obtain ⟨y, _, hR⟩ := q
    obtain ⟨q, vs, cs, L, h0, c64⟩ := y.li
    exact ⟨_, L.slot, hR _ _ ⟨cs, c64, y.ex, q, vs, rfl, h0, L.here, L.data⟩⟩
end
end G33
set_option Elab.async false
set_option linter.all false
set_option maxRecDepth 100000
set_option maxHeartbeats 4000000
namespace G33
open PySem PySem.Spec PyProof.Rows L2
theorem hp_putMO {X : Cx} {ds : Ds} {O : Out} {e : Expr} {pos pos' p p2 : Pos} (t : Nat) {f k : Str} {j} {P N : L2.St → Hp → Prop} {R : V → Hp → Prop} (hu : X.A.units + 64 < cLine) (he : PE X e (teO X.w X.K ds O)) (hL : ∀ σ H, P σ H → Lc X.w X.K H σ ds)
    (hn : ∀ σ H, P σ H → ∃ a kvs, σ[t]? = some (some (.ref a)) ∧ ∀ H1 v H', Ex H H1 → O H1 v H' → H' a = some (.dK kvs) ∧ kvs.length < sizeLine ∧ N σ (upd H' a (.dK (putK kvs (.inr k) v))))
    (hN : X.N[t]? = some f := by rfl) (hv : Vis X.env.scope f := by first | exact Or.inl rfl | exact Or.inr (Or.inl rfl) | exact Or.inr (Or.inr rfl)) (hd : (f == ("__debug__" : Str)) = false := by decide) (hcd : (f == ("__classdict__" : Str)) = false := by decide)
    (hs : swapsWith e (some (.Subscript (.Name f p) (.Constant (.str k) j p2) pos')) pos.line X.env = Pure.pure false := by rfl) :
    PS X (.Assign [.Subscript (.Name f p) (.Constant (.str k) j p2) pos'] e pos) (tH P N R) :=
  ps_imp (ps_dput (by omega) (pe_var hN hv hd hcd) pe_str he hs) fun D σ H q => by
    obtain ⟨a, kvs, e1, g⟩ := hn σ H q.1
    refine ⟨hL σ H q.1, fun H1 v H' x1 o => ?_⟩
    obtain ⟨g1, g2, g3⟩ := g H1 v H' x1 o
    exact ⟨_, e1, a, _, rfl, DPut.k (k := .inr k) g1 g2, q.2.1 _ _ g3⟩
def greatOf (ns : List Int) : List Int := ns.map fun x => if (10 : Int) ^ (18 : Int).toNat ≤ x then x else 0
section
variable {P : Program} {w : World} {K : PySem.W.Frag} {mg : Str → Option Value} {base : Heap}
abbrev N_law_begun : List Str := ["_law_script", "_law_m", "_law_cell"]
theorem sc_law_begun : FnScope N_law_begun ["_law_script"] (defScope (top 78)) := ⟨rfl, rfl, rfl, by decide +kernel, rfl, by decide +kernel, by decide +kernel⟩
def RX_begun (K : PySem.W.Frag) : List PyData → Out → Prop := fun dl O => ∃ ns : List Int, ns.length ≤ 63 ∧ dl = [.list (ns.map .int)] ∧ O = fun H v H' => ∃ M : Mm, Ex H H' ∧ v = .ref M.m ∧ H M.m = none ∧ H M.g = none ∧ H M.c = none ∧ MSt M 0 H'
structure GJ (w : World) (K : PySem.W.Frag) (H0 : Hp) (ns : List Int) (p c r : Addr) (cs : List Int) (σ : L2.St) (H : Hp) : Prop where
  ex : Ex H0 H
  lc : Lc w K H σ [some (.list (ns.map .int)), none, none]
  m0 : σ[1]? = some (some (.ref p))
  hm : H p = some (.dK [(.inr "cells", .ref c), (.inr "great", .ref r), (.inr "spot", .int 0)])
  hc : H c = some (.lst (cs.map .int))
  c64 : cs.length = 64
  np : H0 p = none
  nc : H0 c = none
theorem ok_law_begun (T : Fx K mg) : OkF P w K mg base 2 "_law_begun" ["_law_script"] (spX w K 1 (RX_begun K)) := by
  refine mk_okX T 41 rfl sc_law_begun rfl (fun _ _ _ _ _ _ us hl => match us, hl with | [_], _ => rfl) fun cdv A outer sh Hc E hr dl O hR _ => ?_
  obtain ⟨ns, hns, rfl, rfl⟩ := hR
  refine so_h fun σ0 H0 L0 => ?_
  refine hs_cons (M := fun σ H => ∃ p c r cs, GJ w K H0 ns p c r cs σ H) (ps_imp (ps_set (i := 1) (x := "_law_m") sc_law_begun.nd rfl (.inl rfl) (pe_disp (pps_cons pe_str (po_call (ds := startD 3 [.list (ns.map .int)]) (ok_law_folded T) hr ⟨ns, hns, rfl, rfl⟩ (ah_d (ad_cons (pd_name 0) ad_nil))) (pps_cons pe_str (pe_lst pa_nil) (pps_cons pe_str pe_int pps_nil))) rfl rfl (fun h => nomatch h) (by decide)) rfl (.inr rfl)) fun D σ H q => ?_) ?_
  · obtain ⟨⟨rfl, rfl⟩, hN, _⟩ := q
    intro p hp
    have e0 := Evl.Ex.new (o := HO.dK []) hp
    refine ⟨L0.up e0, fun H1 v H2 e1 o => ?_⟩
    obtain ⟨cs, c64, e2, c, vs, rfl, hc0, hc1, hd⟩ := o
    have hvs := dpa_ints hd
    subst hvs
    refine ⟨Nat.zero_le _, fun r hr0 => ?_⟩
    have e3 := Evl.Ex.new (o := HO.lst []) hr0
    have hp2 : H2 p = some (.dK []) := e2 _ _ (e1 _ _ upd_same)
    have npr : p ≠ r := fun z => by rw [z, hr0] at hp2; cases hp2
    have ncp : c ≠ p := fun z => by rw [z, e1 _ _ upd_same] at hc0; cases hc0
    have ncr : c ≠ r := fun z => by rw [z, hr0] at hc1; cases hc1
    refine ⟨by rw [upd_ne npr]; exact hp2, [(.inr "cells", .ref c), (.inr "great", .ref r), (.inr "spot", .int 0)], rfl, by exact lle rfl, hN _ _ ⟨p, c, r, cs, ?_⟩⟩
    have ee := ((e0.trans e1).trans e2).trans e3
    have hex : ∀ {o : HO}, Ex H (upd (upd H2 r (.lst [])) p o) := fun {o} => Evl.Ex.mut ee hp
    refine ⟨hex, (L0.up hex).un 1 _, set_eq (by rw [L0.1]; exact lle rfl), upd_same, by rw [upd_ne ncp, upd_ne ncr]; exact hc1, c64, hp, ?_⟩
    exact ex_none (e0.trans e1) hc0
  refine hs_ex fun p => hs_ex fun c => hs_ex fun r => hs_ex fun cs => ?_
  refine hs_cons (M := fun σ H => ∃ M : Mm, σ[1]? = some (some (.ref M.m)) ∧ Ex H0 H ∧ H0 M.m = none ∧ H0 M.g = none ∧ H0 M.c = none ∧ MSt M 0 H) (hp_putMO 1 (ds := [some (.list (ns.map .int)), none, none]) hr.units (po_lc1 2 ns .int (fun _ => true) (fun x => .int (if (10 : Int) ^ (18 : Int).toNat ≤ x then x else 0)) rfl sc_law_begun.nd (wd_list (pd_name 0)) (blkOk_by (N := N_law_begun) (sc := defScope (top 78)) (by decide +kernel)) (fun _ _ _ _ _ => pg_name sc_law_begun.nd rfl (.inl rfl)) (fun a ha => pure_int _) (by omega) (fun a ha _ _ _ _ _ => ptd_nil) (fun a ha hf _ _ _ _ _ => (pd_if (pt_ge (pd_name 2) (pd_pow pd_int pd_int (by unfold CPow; decide))) (fun hb => pd_eq (pd_name 2) ?_) (fun hb => pd_eq pd_int ?_)))) (fun σ H q => q.lc) fun σ H q => ?_) ?_
  · show PyData.int a = _
    rw [if_pos (of_decide_eq_true hb)]
  · show PyData.int 0 = _
    rw [if_neg (of_decide_eq_false hb)]
  · refine ⟨p, [(.inr "cells", .ref c), (.inr "great", .ref r), (.inr "spot", .int 0)], q.m0, fun H1 v H' e1 o => ?_⟩
    obtain ⟨e2, g, vs, rfl, hg0, hg1, hd⟩ := o
    have ee := e1.trans e2
    have hm' := ee _ _ q.hm
    refine ⟨hm', by exact Evl.sz_lt (by exact lle rfl), ⟨p, c, g⟩, q.m0, Evl.Ex.mut (q.ex.trans ee) q.np, q.np, ex_none (q.ex.trans e1) hg0, q.nc, 0, cs, greatOf ns, Nat.le_refl _, ?_⟩
    rw [filter_tt] at hd
    have hvs : vs = (greatOf ns).map V.int := dpa_ints (by rw [greatOf, List.map_map]; exact hd)
    have hgp : g ≠ p := fun z => by rw [z, e1 _ _ q.hm] at hg0; cases hg0
    have hcp : c ≠ p := fun z => by have := q.hc; rw [z, q.hm] at this; cases this
    have hcg : c ≠ g := fun z => by rw [← z, e1 _ _ q.hc] at hg0; cases hg0
    refine ⟨upd_same, by rw [upd_ne hcp]; exact ee _ _ q.hc, by rw [upd_ne hgp, ← hvs]; exact hg1, q.c64, by rw [greatOf, List.length_map]; exact hns, hcg⟩
  · refine hs_one (ps_imp (ps_ret (pe_var (i := 1) rfl (Or.inl rfl) (by decide) (by decide))) fun D σ H q => ?_)
    obtain ⟨⟨M, e, ex, h1, h2, h3, ms⟩, _, hR⟩ := q
    exact ⟨_, e, hR _ _ ⟨M, ex, rfl, h1, h2, h3, ms⟩⟩
end
end G33
set_option Elab.async false
set_option linter.all false
set_option maxRecDepth 100000
set_option maxHeartbeats 4000000
namespace G33
open PySem PySem.Spec PyProof.Rows L2
/-- try: .. except ..: where nothing is raised -/
theorem ps_try_quiet {X : Cx} {body : List Stmt} {h₀ : ExceptHandler} {hds : List ExceptHandler} {pos : Pos} {tb : TS}
    (hb : ∀ (pn : List (Addr × Obj)), PSs (X.tr pn (fun _ _ => False)) body tb) : PS X (.Try body (h₀ :: hds) [] [] pos) tb := by
  refine ⟨fun pins s σ H D I h => wpAny_Try_except ?_⟩
  have ok := I.ok
  refine wpAny_mono ((hb (X.pn ++ pins)).run [] s σ H D (I.toTry _) h) (fun f s1 z => ?_) fun e s1 z => False.elim z
  cases f with
  | next => obtain ⟨σ1, H1, J, q⟩ := z; exact wpAny_execs_nil ⟨σ1, H1, J.ofTry ok, q⟩
  | brk => obtain ⟨σ1, H1, J, q⟩ := z; exact ⟨σ1, H1, J.ofTry ok, q⟩
  | cont => obtain ⟨σ1, H1, J, q⟩ := z; exact ⟨σ1, H1, J.ofTry ok, q⟩
  | ret u => obtain ⟨v, σ1, H1, J, r, q⟩ := z; exact ⟨v, σ1, H1, J.ofTry ok, r, q⟩
/-- told: what the lambda gives, in a list -/
def TToldL : (XK → Hp → VK → Prop) → Hp → VK → Prop := fun tl H Q => ∀ H1, Ex H H1 → ∀ Q' : VK, (∀ v H', (∀ p H2, Ex H' H2 → H2 p = none → Q (.ref p) (upd H2 p (.lst [v]))) → Q' v H') → tl (fun _ _ _ => False) H1 Q'
abbrev N_law_told : List Str := ["_law_call", "_law_found", "_law_caught", "error", "_law_heard"]
theorem sc_law_told : FnScope N_law_told ["_law_call"] (defScope (top 89)) := ⟨rfl, rfl, rfl, by decide +kernel, rfl, by decide +kernel, by decide +kernel⟩
theorem told_givesL {X : Cx} {g : Addr} {cdg : Value} {q : Str} : LamX.GivesTo X N_law_told "_law_told" (defScope (top 89)) g cdg (defBody (top 89)) "_law_call" q TToldL := by
  intro f c' s H Q tl act hc h
  refine ⟨tH (fun σ H' => σ = L2.start N_law_told [.ref f] ∧ H' = H) (fun _ _ => False) (fun v H' => Q v H'), ?_, ⟨rfl, rfl⟩, fun _ _ z => z.elim, fun v H' z => z⟩
  refine hs_cons (M := fun σ H' => Ex H H' ∧ σ[0]? = some (some (.ref f)) ∧ σ[2]? = some (some .non) ∧ σ.length = 5) (ps_imp (ps_asg (pe_tup (pa_cons pe_non (pa_cons pe_non pa_nil))) (pg_tup rfl (pgs_cons (pg_name (i := 1) sc_law_told.nd rfl (.inl rfl)) (pgs_cons (pg_name (i := 2) sc_law_told.nd rfl (.inl rfl)) pgs_nil))) rfl rfl) fun D σ H' q => ?_) ?_
  · obtain ⟨⟨rfl, rfl⟩, hN, _⟩ := q
    refine ⟨by exact Evl.sz_of (by exact lle rfl), fun p hp => ⟨p, [.non, .non], rfl, .inl (.inl upd_same), rfl, .non, [.non], rfl, .non, [], rfl, rfl, hN _ _ ⟨Evl.Ex.new hp, rfl, rfl, rfl⟩⟩⟩
  refine hs_cons (M := fun σ H' => ∃ v, σ[1]? = some (some v) ∧ σ[2]? = some (some .non) ∧ σ.length = 5 ∧ ∀ p H2, Ex H' H2 → H2 p = none → Q (.ref p) (upd H2 p (.lst [v]))) (ps_imp (ps_try_quiet (tb := fun D σ H' => σ[0]? = some (some (.ref f)) ∧ H' c' = some (LamX.CodeO c' q) ∧ tl (fun _ _ _ => False) H' fun v H2 => D.nx (σ.set 1 (some v)) H2) fun pn => ?_) fun D σ H' z => ?_) ?_
  · refine pss_imp (pss_one (ps_set (i := 1) sc_law_told.nd rfl (.inl rfl) (act (fun _ _ _ _ => False) pn (fun _ _ => False) (fun _ _ _ => False) _ _ LamX.takes0 (fun _ _ _ _ z => z)) rfl (.inr rfl))) fun D σ H' z => z
  · obtain ⟨⟨e, h0, h2, h5⟩, hN, _⟩ := z
    exact ⟨h0, e _ _ hc, h H' e _ fun v H2 k => hN _ _ ⟨v, set_eq (by rw [h5]; decide), set_ne (by decide) h2, by rw [List.length_set]; exact h5, k⟩⟩
  have L : ∀ {σ : L2.St} {H' : Hp}, σ[2]? = some (some V.non) → σ.length = 5 → Lc X.w X.K H' σ [none, none, some .none, none, none] := fun {σ H'} h2 h5 => ⟨h5, fun i d e => by
    match i, e with
    | 2, e => cases e; exact ⟨.non, h2, .inl .non⟩
    | 3, e => cases e
    | 4, e => cases e
    | n + 5, e => simp at e⟩
  refine hs_cons (M := fun _ _ => False) (ps_imp (ps_if (pt_isN (pd_name (ds := [none, none, some .none, none, none]) 2)) (pss_one (ps_ret (pe_lst (pa_cons (pe_var (i := 1) rfl (Or.inl rfl) (by decide) (by decide)) pa_nil)))) pss_never) fun D σ H' z => ?_) (pss_imp pss_never fun D σ H' z => z.1)
  obtain ⟨⟨v, h1, h2, h5, k⟩, _, hR⟩ := z
  refine ⟨L h2 h5, fun H2 e2 => iteT ⟨v, h1, by exact Evl.sz_of (by exact lle rfl), fun p hp => hR _ _ (k p H2 e2 hp)⟩⟩
end G33
set_option Elab.async false
set_option linter.all false
set_option maxRecDepth 100000
set_option maxHeartbeats 1000000
namespace G33
open PySem
/-! ### plain laws of the going through -/
section
variable {α : Type} {nxt : Pr → Int → Pr} {may : Pr → List Int}
theorem hasK_app {kv : List (Pr × α)} {p q : Pr} {x : α} : hasK (kv ++ [(q, x)]) p = true ↔ hasK kv p = true ∨ p = q := by
  rw [hasK_iff, hasK_iff, List.map_append, List.mem_append]
  simp
/-- keys once -/
def Once (st : Bs α) : Prop := (st.1.map (·.1)).Nodup
theorem vis1_once {val : List (Pr × α) → Pr → Int → α} {p : Pr} {st : Bs α} {f : Int} (h : Once st) : Once (vis1 nxt val p st f) := by
  unfold vis1
  split
  · exact h
  · rename_i hn
    show ((st.1 ++ [(nxt p f, val st.1 p f)]).map (·.1)).Nodup
    rw [List.map_append, List.nodup_append]
    refine ⟨h, by simp, fun a ha b hb => ?_⟩
    simp at hb
    subst hb
    rintro rfl
    exact hn (hasK_iff.mpr ha)
theorem bfs_once {val : Nat → List (Pr × α) → Pr → Int → α} {st0 : Bs α} (h : Once st0) : ∀ k, Once (bfs nxt may val st0 k)
  | 0 => h
  | k + 1 => fold_keep Once (fun z p _ hz => fold_keep Once (fun z f _ hz => vis1_once hz) z hz) _ (show Once ((bfs nxt may val st0 k).1, []) from bfs_once h k)
/-- what is behind a key that is not in the layer, is a key -/
def Clo (nxt : Pr → Int → Pr) (may : Pr → List Int) (lay : List Pr) (st : Bs α) : Prop := ∀ p, hasK st.1 p = true → p ∉ lay → ∀ f ∈ may p, hasK st.1 (nxt p f) = true
theorem vis1_has {val : List (Pr × α) → Pr → Int → α} {p : Pr} {st : Bs α} {f : Int} : hasK (vis1 nxt val p st f).1 (nxt p f) = true := by
  unfold vis1
  split
  · assumption
  · exact hasK_app.mpr (.inr rfl)
theorem visP_has {val : List (Pr × α) → Pr → Int → α} {p : Pr} : ∀ {l : List Int} {st : Bs α} {f : Int}, f ∈ l → hasK (l.foldl (vis1 nxt val p) st).1 (nxt p f) = true
  | a :: l, st, f, h => by
    rw [List.foldl_cons]
    rcases List.mem_cons.mp h with rfl | h
    · exact grows_has (foldl_grows (vis1_grows p) l _) vis1_has
    · exact visP_has h
theorem fold_has {val : List (Pr × α) → Pr → Int → α} : ∀ {l : List Pr} {st : Bs α} {p : Pr} {f : Int}, p ∈ l → f ∈ may p → hasK (l.foldl (visP nxt may val) st).1 (nxt p f) = true
  | a :: l, st, p, f, h, hf => by
    rw [List.foldl_cons]
    rcases List.mem_cons.mp h with rfl | h
    · exact grows_has (foldl_grows visP_grows l _) (visP_has hf)
    · exact fold_has h hf
/-- what came new, is in the layer -/
def NewIn (kv0 : List (Pr × α)) (st : Bs α) : Prop := ∀ p, hasK st.1 p = true → hasK kv0 p = true ∨ p ∈ st.2
theorem vis1_new {val : List (Pr × α) → Pr → Int → α} {kv0 : List (Pr × α)} {p : Pr} {st : Bs α} {f : Int} (h : NewIn kv0 st) : NewIn kv0 (vis1 nxt val p st f) := by
  unfold vis1
  split
  · exact h
  · intro q hq
    rcases hasK_app.mp hq with hq | rfl
    · rcases h q hq with h | h
      · exact .inl h
      · exact .inr (List.mem_append.mpr (.inl h))
    · exact .inr (by simp)
theorem bfs_clo {val : Nat → List (Pr × α) → Pr → Int → α} {st0 : Bs α} (h : Clo nxt may st0.2 st0) : ∀ k, Clo nxt may (bfs nxt may val st0 k).2 (bfs nxt may val st0 k)
  | 0 => h
  | k + 1 => fun p hp hl f hf => by
    have ih := bfs_clo (val := val) h k
    have hN : NewIn (bfs nxt may val st0 k).1 (bfs nxt may val st0 (k + 1)) := fold_keep (NewIn (bfs nxt may val st0 k).1) (fun z p _ hz => fold_keep (NewIn (bfs nxt may val st0 k).1) (fun z f _ hz => vis1_new hz) z hz) _ (fun p hp => .inl hp)
    rcases hN p hp with h0 | h0
    · by_cases hm : p ∈ (bfs nxt may val st0 k).2
      · exact fold_has hm hf
      · exact grows_has (foldl_grows visP_grows _ ((bfs nxt may val st0 k).1, [])) (ih p h0 hm f hf)
    · exact absurd h0 hl
end
/-! rows: their lengths, where they lead -/
/-- the row leads from p0 to p, by calls that may be -/
inductive Leads (nxt : Pr → Int → Pr) (may : Pr → List Int) (p0 : Pr) : List Int → Pr → Prop where
  | nil : Leads nxt may p0 [] p0
  | snoc {row : List Int} {p : Pr} {f : Int} (h : Leads nxt may p0 row p) (hf : f ∈ may p) : Leads nxt may p0 (row ++ [f]) (nxt p f)
structure Rows (nxt : Pr → Int → Pr) (may : Pr → List Int) (p0 : Pr) (k : Nat) (st : Bs (List Int)) : Prop where
  once : Once st
  way : ∀ q ∈ st.1, Leads nxt may p0 q.2 q.1
  inc : (st.1.map (·.2.length)).Pairwise (· ≤ ·)
  top : ∀ q ∈ st.1, q.2.length ≤ k
section
variable {nxt : Pr → Int → Pr} {may : Pr → List Int} {p0 : Pr}
structure RowsV (nxt : Pr → Int → Pr) (may : Pr → List Int) (p0 : Pr) (k : Nat) (st : Bs (List Int)) : Prop extends Rows nxt may p0 k st where
  lay : ∀ p ∈ st.2, ∃ row, st.1.lookup p = some row ∧ row.length = k
theorem vis1_rowsV {k : Nat} {p : Pr} {st : Bs (List Int)} {f : Int} (h : RowsV nxt may p0 (k + 1) st) (hp : ∃ row, st.1.lookup p = some row ∧ row.length = k) (hf : f ∈ may p) : RowsV nxt may p0 (k + 1) (vis1 nxt rowOf p st f) := by
  have ho := vis1_once (nxt := nxt) (val := rowOf) (p := p) (f := f) h.once
  unfold vis1 at ho ⊢
  split
  · exact h
  · rename_i hn
    rw [if_neg hn] at ho
    obtain ⟨row, hr, hk⟩ := hp
    have er : rowOf st.1 p f = row ++ [f] := by rw [rowOf, hr]; rfl
    have hw := h.way _ (lookup_mem hr)
    refine ⟨⟨ho, fun q hq => ?_, ?_, fun q hq => ?_⟩, fun q hq => ?_⟩
    · rcases List.mem_append.mp hq with hq | hq
      · exact h.way q hq
      · rw [List.mem_singleton.mp hq, er]
        exact .snoc hw hf
    · rw [List.map_append, List.pairwise_append]
      refine ⟨h.inc, by simp, fun a ha b hb => ?_⟩
      simp only [List.map_cons, List.map_nil, List.mem_singleton] at hb
      obtain ⟨q, hq, rfl⟩ := List.mem_map.mp ha
      rw [hb, er, List.length_append, hk]
      exact h.top q hq
    · rcases List.mem_append.mp hq with hq | hq
      · exact h.top q hq
      · rw [List.mem_singleton.mp hq, er, List.length_append, hk]
        exact Nat.le_refl _
    · rcases List.mem_append.mp hq with hq | hq
      · obtain ⟨r2, h1, h2⟩ := h.lay q hq
        exact ⟨r2, lookup_append q _ h1, h2⟩
      · rw [List.mem_singleton.mp hq]
        exact ⟨_, lookup_new (by simpa using hn), by rw [er, List.length_append, hk]; rfl⟩
/-- the layer that is gone through keeps its rows -/
def LayK (k : Nat) (lay : List Pr) (st : Bs (List Int)) : Prop := ∀ p ∈ lay, ∃ row, st.1.lookup p = some row ∧ row.length = k
theorem LayK.grows {k : Nat} {lay : List Pr} {a b : Bs (List Int)} (h : LayK k lay a) (g : Grows a b) : LayK k lay b := fun p hp => by
  obtain ⟨row, h1, h2⟩ := h p hp
  obtain ⟨x, _, e, _⟩ := g
  exact ⟨row, by rw [e]; exact lookup_append p x h1, h2⟩
/-- depths for rows -/
def lenB (st : Bs (List Int)) : Bs Nat := (st.1.map fun q => (q.1, q.2.length), st.2)
theorem lenB_has (st : Bs (List Int)) (p : Pr) : hasK (lenB st).1 p = hasK st.1 p := by
  unfold hasK lenB
  rw [lookup_map (fun r : List Int => r.length) p st.1]
  simp
theorem vis1_lenB {k : Nat} {p : Pr} {st : Bs (List Int)} {f : Int} (hp : ∃ row, st.1.lookup p = some row ∧ row.length = k) : vis1 nxt (fun _ _ _ => k + 1) p (lenB st) f = lenB (vis1 nxt rowOf p st f) := by
  obtain ⟨row, hr, hk⟩ := hp
  unfold vis1
  rw [lenB_has]
  split
  · rfl
  · unfold lenB
    simp [rowOf, hr, hk]
structure RJ (nxt : Pr → Int → Pr) (may : Pr → List Int) (p0 : Pr) (k : Nat) (lay : List Pr) (st : Bs (List Int)) : Prop where
  rv : RowsV nxt may p0 (k + 1) st
  lk : LayK k lay st
theorem fares_rj {k : Nat} {lay : List Pr} {p : Pr} (hp : p ∈ lay) : ∀ (l : List Int), (∀ f ∈ l, f ∈ may p) → ∀ st, RJ nxt may p0 k lay st → RJ nxt may p0 k lay (l.foldl (vis1 nxt rowOf p) st) ∧ l.foldl (vis1 nxt (fun _ _ _ => k + 1) p) (lenB st) = lenB (l.foldl (vis1 nxt rowOf p) st)
  | [], _, st, h => ⟨h, rfl⟩
  | f :: l, hl, st, h => by
    rw [List.foldl_cons, List.foldl_cons, vis1_lenB (h.lk p hp)]
    exact fares_rj hp l (fun f hf => hl f (by simp [hf])) _ ⟨vis1_rowsV h.rv (h.lk p hp) (hl f (by simp)), h.lk.grows (vis1_grows p st f)⟩
theorem layer_rj {k : Nat} {lay : List Pr} : ∀ (l : List Pr), (∀ p ∈ l, p ∈ lay) → ∀ st, RJ nxt may p0 k lay st → RJ nxt may p0 k lay (l.foldl (visP nxt may rowOf) st) ∧ l.foldl (visP nxt may (fun _ _ _ => k + 1)) (lenB st) = lenB (l.foldl (visP nxt may rowOf) st)
  | [], _, st, h => ⟨h, rfl⟩
  | p :: l, hl, st, h => by
    rw [List.foldl_cons, List.foldl_cons]
    have h1 := fares_rj (nxt := nxt) (hl p (by simp)) (may p) (fun _ h => h) st h
    show _ ∧ l.foldl _ ((may p).foldl (vis1 nxt (fun _ _ _ => k + 1) p) (lenB st)) = _
    rw [h1.2]
    exact layer_rj l (fun p hp => hl p (by simp [hp])) _ h1.1
abbrev bstOf (nxt : Pr → Int → Pr) (may : Pr → List Int) (p0 : Pr) : Nat → Bs (List Int) := bfs nxt may (fun _ => rowOf) ([(p0, [])], [p0])
abbrev dstOf (nxt : Pr → Int → Pr) (may : Pr → List Int) (p0 : Pr) : Nat → Bs Nat := bfs nxt may (fun k _ _ _ => k) ([(p0, 0)], [p0])
theorem bst_rows : ∀ k, RowsV nxt may p0 k (bstOf nxt may p0 k) ∧ dstOf nxt may p0 k = lenB (bstOf nxt may p0 k)
  | 0 => by
    refine ⟨⟨⟨by simp [Once, bfs], fun q hq => ?_, by simp [bfs], fun q hq => ?_⟩, fun p hp => ?_⟩, rfl⟩
    · rw [List.mem_singleton.mp hq]; exact .nil
    · rw [List.mem_singleton.mp hq]; exact Nat.le_refl _
    · rw [List.mem_singleton.mp hp]
      exact ⟨[], by show (match p0 == p0 with | true => some [] | false => _) = _; rw [beq_self_eq_true], rfl⟩
  | k + 1 => by
    obtain ⟨h, e⟩ := bst_rows k
    have j0 : RJ nxt may p0 k (bstOf nxt may p0 k).2 ((bstOf nxt may p0 k).1, []) := ⟨⟨⟨h.once, h.way, h.inc, fun q hq => Nat.le_succ_of_le (h.top q hq)⟩, fun p hp => nomatch hp⟩, fun p hp => h.lay p hp⟩
    have := layer_rj (nxt := nxt) (may := may) (p0 := p0) (bstOf nxt may p0 k).2 (fun _ h => h) _ j0
    refine ⟨this.1.rv, ?_⟩
    show (dstOf nxt may p0 k).2.foldl (visP nxt may (fun _ _ _ => k + 1)) ((dstOf nxt may p0 k).1, []) = _
    rw [e]
    exact this.2
theorem bst_clo (k : Nat) : Clo nxt may (bstOf nxt may p0 k).2 (bstOf nxt may p0 k) := bfs_clo (by
  intro p hp hl f hf
  exact absurd (by simpa [hasK_iff] using hp) (by simpa using hl)) k
end
end G33
set_option Elab.async false
set_option linter.all false
set_option maxRecDepth 100000
set_option maxHeartbeats 1000000
namespace G33
open PySem
section
variable {α : Type} {nxt nxt' : Pr → Int → Pr} {may may' : Pr → List Int}
/-! ### the same going through under other names -/
def mapB (φ : Pr → Pr) (st : Bs α) : Bs α := (st.1.map fun q => (φ q.1, q.2), st.2.map φ)
theorem lookup_inj {φ : Pr → Pr} (inj : ∀ p q, φ p = φ q → p = q) (p : Pr) : ∀ kv : List (Pr × α), (kv.map fun q => (φ q.1, q.2)).lookup (φ p) = kv.lookup p
  | [] => rfl
  | q :: kv => by
    show (match φ p == φ q.1 with | true => some q.2 | false => (kv.map fun q => (φ q.1, q.2)).lookup (φ p)) = (match p == q.1 with | true => some q.2 | false => kv.lookup p)
    have e : (φ p == φ q.1) = (p == q.1) := by
      rw [Bool.eq_iff_iff, beq_iff_eq, beq_iff_eq]
      exact ⟨inj _ _, fun h => by rw [h]⟩
    rw [e]
    cases p == q.1 with
    | true => rfl
    | false => exact lookup_inj inj p kv
theorem vis1_map {φ : Pr → Pr} (inj : ∀ p q, φ p = φ q → p = q) (hn : ∀ p f, nxt' (φ p) f = φ (nxt p f)) {p : Pr} {st : Bs (List Int)} {f : Int} : vis1 nxt' rowOf (φ p) (mapB φ st) f = mapB φ (vis1 nxt rowOf p st f) := by
  have e1 : hasK (mapB φ st).1 (φ (nxt p f)) = hasK st.1 (nxt p f) := by
    unfold hasK mapB
    rw [lookup_inj inj]
  unfold vis1
  rw [hn, e1]
  split
  · rfl
  · unfold mapB
    simp [rowOf, lookup_inj inj]
theorem bst_map {φ : Pr → Pr} (inj : ∀ p q, φ p = φ q → p = q) (hn : ∀ p f, nxt' (φ p) f = φ (nxt p f)) (hm : ∀ p, may' (φ p) = may p) {p0 : Pr} : ∀ k, bstOf nxt' may' (φ p0) k = mapB φ (bstOf nxt may p0 k)
  | 0 => rfl
  | k + 1 => by
    show (bstOf nxt' may' (φ p0) k).2.foldl (visP nxt' may' rowOf) ((bstOf nxt' may' (φ p0) k).1, []) = _
    rw [bst_map inj hn hm k]
    show ((bstOf nxt may p0 k).2.map φ).foldl (visP nxt' may' rowOf) (mapB φ ((bstOf nxt may p0 k).1, [])) = mapB φ ((bstOf nxt may p0 k).2.foldl (visP nxt may rowOf) ((bstOf nxt may p0 k).1, []))
    have fares : ∀ (l : List Int) (p : Pr) (st : Bs (List Int)), l.foldl (vis1 nxt' rowOf (φ p)) (mapB φ st) = mapB φ (l.foldl (vis1 nxt rowOf p) st) := by
      intro l p
      induction l with
      | nil => intro st; rfl
      | cons a l ih => intro st; rw [List.foldl_cons, List.foldl_cons, vis1_map inj hn, ih]
    have lay : ∀ (l : List Pr) (st : Bs (List Int)), (l.map φ).foldl (visP nxt' may' rowOf) (mapB φ st) = mapB φ (l.foldl (visP nxt may rowOf) st) := by
      intro l
      induction l with
      | nil => intro st; rfl
      | cons p l ih =>
        intro st
        rw [List.map_cons, List.foldl_cons, List.foldl_cons]
        show (l.map φ).foldl _ ((may' (φ p)).foldl (vis1 nxt' rowOf (φ p)) (mapB φ st)) = mapB φ (l.foldl _ ((may p).foldl (vis1 nxt rowOf p) st))
        rw [hm, fares, ih]
    exact lay _ _
/-! ### it ends where the states are few -/
theorem nodup_len {β : Type} [DecidableEq β] : ∀ {l S : List β}, l.Nodup → (∀ x ∈ l, x ∈ S) → l.length ≤ S.length
  | [], S, _, _ => Nat.zero_le _
  | a :: l, S, hn, h => by
    rw [List.nodup_cons] at hn
    have h1 : ∀ x ∈ l, x ∈ S.erase a := fun x hx => (List.mem_erase_of_ne (show x ≠ a from fun e => hn.1 (e ▸ hx))).mpr (h x (by simp [hx]))
    have h2 := nodup_len hn.2 h1
    have h3 := List.length_erase_of_mem (h a (by simp))
    have h4 : 0 < S.length := List.length_pos_of_mem (h a (by simp))
    rw [List.length_cons]
    omega
theorem bst_len {p0 : Pr} (k : Nat) : (bstOf nxt may p0 (k + 1)).1.length = (bstOf nxt may p0 k).1.length + (bstOf nxt may p0 (k + 1)).2.length :=
  fold_keep (fun z : Bs (List Int) => z.1.length = (bstOf nxt may p0 k).1.length + z.2.length) (fun z p _ hz => fold_keep (fun z : Bs (List Int) => z.1.length = (bstOf nxt may p0 k).1.length + z.2.length) (fun z f _ hz => vis1_count hz) z hz) _ (by simp)
theorem bst_ends {p0 : Pr} {N : Nat} (hN : ∀ k, (bstOf nxt may p0 k).1.length ≤ N) : ∃ n, (bstOf nxt may p0 n).2 = [] := by
  by_cases h : ∃ n, (bstOf nxt may p0 n).2 = []
  · exact h
  · exfalso
    have hne : ∀ n, (bstOf nxt may p0 n).2 ≠ [] := fun n e => h ⟨n, e⟩
    have grow : ∀ k, k ≤ (bstOf nxt may p0 k).1.length := by
      intro k
      induction k with
      | zero => exact Nat.zero_le _
      | succ k ih =>
        have h1 := bst_len (nxt := nxt) (may := may) (p0 := p0) k
        have h2 := List.length_pos_iff.mpr (hne (k + 1))
        omega
    have := grow (N + 1)
    have := hN (N + 1)
    omega
end
end G33
set_option Elab.async false
set_option linter.all false
set_option maxRecDepth 100000
set_option maxHeartbeats 1000000
namespace G33
open PySem
theorem sum_set : ∀ {l : List Int} {i : Nat} {x : Int}, i < l.length → (l.set i x).sum = l.sum - l.getD i 0 + x
  | a :: l, 0, x, _ => by simp; omega
  | a :: l, i + 1, x, h => by
    have := sum_set (l := l) (i := i) (x := x) (by simpa using h)
    simp only [List.set_cons_succ, List.sum_cons, this, List.getD_cons_succ]
    omega
theorem sum_bump {l : List Int} {i : Nat} {m : Int} (h : i < l.length) : (bump l i m).sum = l.sum + m := by
  unfold bump
  rw [sum_set h]
  omega
theorem mem_bump {l : List Int} {i : Nat} {m x : Int} (hx : x ∈ bump l i m) : x ∈ l ∨ x = l.getD i 0 + m := List.mem_or_eq_of_mem_set hx
theorem getD_nn {l : List Int} (h : ∀ x ∈ l, 0 ≤ x) (i : Nat) : 0 ≤ l.getD i 0 := by
  rw [List.getD_eq_getElem?_getD]
  cases q : l[i]? with
  | none => exact Int.le_refl 0
  | some x => exact h x (List.mem_of_getElem? q)
theorem le_sum : ∀ {l : List Int}, (∀ x ∈ l, 0 ≤ x) → ∀ x ∈ l, x ≤ l.sum
  | a :: l, h, x, hx => by
    have hs : 0 ≤ l.sum := by
      have : ∀ l : List Int, (∀ x ∈ l, 0 ≤ x) → 0 ≤ l.sum := by
        intro l
        induction l with
        | nil => intro _; exact Int.le_refl 0
        | cons a l ih =>
          intro h
          have h1 := h a (by simp)
          have h2 := ih fun x hx => h x (by simp [hx])
          rw [List.sum_cons]; omega
      exact this l fun x hx => h x (by simp [hx])
    have ha := h a (by simp)
    rw [List.sum_cons]
    rcases List.mem_cons.mp hx with rfl | hx
    · omega
    · have := le_sum (l := l) (fun x hx => h x (by simp [hx])) x hx
      omega
theorem cheap_some {l : List Int} {i : Nat} (h : cheap l = some i) : i < l.length ∧ 0 < l.getD i 0 := by
  unfold cheap at h
  have h1 := List.find?_some h
  have h2 := List.mem_of_find?_eq_some h
  exact ⟨List.mem_range.mp h2, of_decide_eq_true h1⟩
theorem ousts_some {h : Hall} {r : Ru} {sold : List Int} {f i : Nat} {fee : Int} (hr : r.Ok h) (e : ousts h r sold f = some (i, fee)) : i < sold.length ∧ 0 < sold.getD i 0 ∧ 0 ≤ fee ∧ fee ≤ 99 := by
  cases r with
  | plain w l => cases e
  | two b r s => cases e
  | oust r f0 =>
    unfold ousts at e
    cases q : cheap sold with
    | none => rw [q] at e; cases e
    | some j =>
      rw [q] at e
      simp only at e
      split at e
      · cases e
        exact ⟨(cheap_some q).1, (cheap_some q).2, hr.2.1, hr.2.2⟩
      · cases e
theorem step_cnt {h : Hall} {r : Ru} {c : List Int} {pd : Int} {f : Nat} (hc : CntOk h c) (hr : r.Ok h) (hf : f < h.fares.length) : CntOk h (step h r c pd f).sold ∧ pd ≤ (step h r c pd f).paid ∧ (step h r c pd f).paid ≤ pd + 99 := by
  have hl : f < c.length := by rw [hc.len]; exact hf
  unfold step
  split
  · rename_i hh
    refine ⟨⟨by show (bump c f 1).length = _; unfold bump; rw [List.length_set]; exact hc.len, fun x hx => ?_, ?_⟩, Int.le_refl _, by show pd ≤ pd + 99; omega⟩
    · rcases mem_bump hx with hx | rfl
      · exact hc.nn x hx
      · have := getD_nn hc.nn f; omega
    · show (bump c f 1).sum ≤ _
      rw [sum_bump hl]
      have := hh.1
      omega
  · split
    · rename_i i fee e
      obtain ⟨h1, h2, h3, h4⟩ := ousts_some hr e
      have hl2 : f < (bump c i (-1)).length := by unfold bump; rw [List.length_set]; exact hl
      have nn1 : ∀ x ∈ bump c i (-1), 0 ≤ x := fun x hx => by
        rcases mem_bump hx with hx | rfl
        · exact hc.nn x hx
        · omega
      refine ⟨⟨by show (bump (bump c i (-1)) f 1).length = _; unfold bump; rw [List.length_set, List.length_set]; exact hc.len, fun x hx => ?_, ?_⟩, by show pd ≤ pd + fee; omega, by show pd + fee ≤ pd + 99; omega⟩
      · rcases mem_bump hx with hx | rfl
        · exact nn1 x hx
        · have := getD_nn nn1 f; omega
      · show (bump (bump c i (-1)) f 1).sum ≤ _
        rw [sum_bump hl2, sum_bump h1]
        have := hc.sm
        omega
    · exact ⟨hc, Int.le_refl _, by show pd ≤ pd + 99; omega⟩
theorem cnt6 {h : Hall} {c : List Int} (ho : h.Ok) (hc : CntOk h c) : ∀ x ∈ c, x ≤ 6 := fun x hx => by
  have h1 := le_sum hc.nn x hx
  have h2 := hc.sm
  have h3 := ho.s6
  omega
theorem cnt_none {h : Hall} (ho : h.Ok) : CntOk h (none0 h) := by
  refine ⟨by simp [none0], fun x hx => by rw [List.eq_of_mem_replicate hx]; exact Int.le_refl 0, ?_⟩
  have : ∀ n : Nat, (List.replicate n (0 : Int)).sum = 0 := fun n => by
    induction n with
    | zero => rfl
    | succ n ih => rw [List.replicate_succ, List.sum_cons, ih]; rfl
  rw [none0, this]
  have := ho.s1
  omega
theorem pr_first {h : Hall} {rs : Bool} (ho : h.Ok) : PrOk h rs (first h) := by
  have hn := ho.n1
  refine ⟨cnt_none ho, cnt_none ho, cnt6 ho (cnt_none ho), cnt6 ho (cnt_none ho), Int.le_refl 0, Int.le_refl 0, Int.le_refl _, ?_⟩
  show (-1 : Int) ≤ _
  split <;> omega
theorem pr_behind {h : Hall} {r s : Ru} {rs : Bool} {p : Pr} {f : Int} (ho : h.Ok) (hr : r.Ok h) (hs : s.Ok h) (hp : PrOk h rs p) (hf : f ∈ mayOf h rs p) : PrOk h rs (behind h r s rs p f) := by
  obtain ⟨n, rfl, hn⟩ := may_lt hf
  have h1 := step_cnt (pd := p.pa) (f := n) hp.a hr hn
  have h2 := step_cnt (pd := p.pb) (f := n) hp.b hs hn
  have hpa := hp.pa
  have hpb := hp.pb
  refine ⟨h1.1, h2.1, cnt6 ho h1.1, cnt6 ho h2.1, ?_, ?_, ?_, ?_⟩
  · exact Int.le_trans hpa h1.2.1
  · exact Int.le_trans hpb h2.2.1
  · show (-1 : Int) ≤ if rs then (n : Int) else -1
    split <;> omega
  · show (if rs then (n : Int) else -1) ≤ if rs then (h.fares.length : Int) - 1 else -1
    split <;> omega
end G33
set_option Elab.async false
set_option linter.all false
set_option maxRecDepth 100000
set_option maxHeartbeats 1000000
namespace G33
open PySem
section
variable {h : Hall} {r s : Ru} {rs : Bool}
abbrev LeadsH (h : Hall) (r s : Ru) (rs : Bool) : List Int → Pr → Prop := Leads (behind h r s rs) (mayOf h rs) (first h)
theorem leads_fold {row : List Int} {p : Pr} (x : LeadsH h r s rs row p) : row.foldl (behind h r s rs) (first h) = p := by
  induction x with
  | nil => rfl
  | snoc x hf ih => rw [List.foldl_append, ih]; rfl
theorem leads_end {row : List Int} {p : Pr} (x : LeadsH h r s rs row p) : stAt h r s rs row row.length = p := by
  unfold stAt
  rw [List.take_length]
  exact leads_fold x
theorem stAt_app {row : List Int} {f : Int} {i : Nat} (hi : i ≤ row.length) : stAt h r s rs (row ++ [f]) i = stAt h r s rs row i := by
  unfold stAt
  rw [List.take_append_of_le_length hi]
theorem leads_may {row : List Int} {p : Pr} (x : LeadsH h r s rs row p) : ∀ i f, row[i]? = some f → f ∈ mayOf h rs (stAt h r s rs row i) := by
  induction x with
  | nil => intro i f e; simp at e
  | snoc x hf ih =>
    rename_i row p g
    intro i f e
    by_cases hi : i < row.length
    · rw [List.getElem?_append_left hi] at e
      rw [stAt_app (Nat.le_of_lt hi)]
      exact ih i f e
    · rw [List.getElem?_append_right (by omega)] at e
      have : i = row.length := by
        cases q : i - row.length with
        | zero => omega
        | succ k => rw [q] at e; simp at e
      subst this
      simp at e
      subst e
      rw [stAt_app (Nat.le_refl _), leads_end x]
      exact hf
theorem leads_pr (ho : h.Ok) (hr : r.Ok h) (hs : s.Ok h) {row : List Int} {p : Pr} (x : LeadsH h r s rs row p) : PrOk h rs p := by
  induction x with
  | nil => exact pr_first ho
  | snoc x hf ih => exact pr_behind ho hr hs ih hf
theorem leads_calls {row : List Int} {p : Pr} (x : LeadsH h r s rs row p) : Calls h row := by
  intro f hf
  obtain ⟨i, hi⟩ := List.mem_iff_getElem?.mp hf
  obtain ⟨n, rfl, hn⟩ := may_lt (leads_may x i f hi)
  omega
theorem may_low {p : Pr} {f : Int} (hf : f ∈ mayOf h rs p) : lowOf rs p ≤ f := by
  unfold mayOf at hf
  obtain ⟨n, _, rfl⟩ := List.mem_map.mp hf
  omega
theorem leads_up {row : List Int} {p : Pr} (x : LeadsH h r s true row p) : row.Pairwise (· ≤ ·) ∧ ∀ f ∈ row, f ≤ p.last := by
  induction x with
  | nil => exact ⟨List.Pairwise.nil, fun _ h => nomatch h⟩
  | snoc x hf ih =>
    rename_i row p g
    have hg : p.last ≤ g := by
      have := may_low hf
      unfold lowOf at this
      simp only [if_true] at this
      omega
    refine ⟨?_, fun f hf' => ?_⟩
    · rw [List.pairwise_append]
      refine ⟨ih.1, List.pairwise_singleton _ _, fun a ha b hb => ?_⟩
      rw [List.mem_singleton.mp hb]
      exact Int.le_trans (ih.2 a ha) hg
    · show f ≤ g
      rcases List.mem_append.mp hf' with hf' | hf'
      · exact Int.le_trans (ih.2 f hf') hg
      · rw [List.mem_singleton.mp hf']; exact Int.le_refl _
theorem lead_first (ho : h.Ok) : lead h (first h) = 0 := by
  unfold lead first
  simp only
  omega
theorem leads_last {row : List Int} {p : Pr} (ho : h.Ok) (x : LeadsH h r s rs row p) : (0 :: leadsBy h r s rs row).getLast? = some (lead h p) := by
  rw [← leads_end x]
  unfold leadsBy
  cases q : row.length with
  | zero =>
    show some 0 = _
    congr 1
    have : stAt h r s rs row 0 = first h := by unfold stAt; rw [List.take_zero]; rfl
    rw [this, lead_first ho]
  | succ k =>
    rw [List.range_succ, List.map_append, ← List.cons_append, List.map_cons, List.map_nil, List.getLast?_concat]
theorem leads_way (ho : h.Ok) (hr : RuOk h r) (hs : RuOk h s) {row : List Int} {p : Pr} (x : LeadsH h r s rs row p) (hl : row.length ≤ 20000) : WayOk h r s rs row (lead h p) :=
  ⟨ho, hr, hs, leads_calls x, hl, fun e => by subst e; exact (leads_up x).1, leads_last ho x⟩
/-! ### the pair states that come -/
structure Fin (h : Hall) (r s : Ru) (rs : Bool) (n N : Nat) : Prop where
  ho : h.Ok
  ro : RuOk h r
  so : RuOk h s
  done : (bst h r s rs n).2 = []
  few : (bst h r s rs n).1.length ≤ N
variable {n N : Nat}
theorem Fin.go (x : Fin h r s rs n N) (hN : N ≤ 20000) : GoOk h r s rs (bst h r s rs n) := ⟨x.ro, x.so, n, x.ho, x.ro.ok, x.so.ok, x.ro.deep, x.so.deep, rfl, x.done, Nat.le_trans x.few hN⟩
theorem Fin.rows (x : Fin h r s rs n N) : RowsV (behind h r s rs) (mayOf h rs) (first h) n (bst h r s rs n) := (bst_rows n).1
theorem Fin.short (x : Fin h r s rs n N) : ∀ q ∈ (bst h r s rs n).1, q.2.length ≤ (bst h r s rs n).1.length := bfs_rows (st0 := ([(first h, [])], [first h])) (fun q hq => by rw [List.mem_singleton.mp hq]; exact Nat.zero_le _) n
theorem Fin.clo (x : Fin h r s rs n N) : ∀ p, hasK (bst h r s rs n).1 p = true → ∀ f ∈ mayOf h rs p, hasK (bst h r s rs n).1 (behind h r s rs p f) = true := fun p hp f hf => bst_clo n p hp (by rw [x.done]; exact fun h => nomatch h) f hf
end
end G33
set_option Elab.async false
set_option linter.all false
set_option maxRecDepth 100000
set_option maxHeartbeats 1000000
namespace G33
open PySem
theorem extr_ex (b : Bool) : ∀ {l : List Int}, l ≠ [] → ∃ m, Extr b m l
  | [], h => absurd rfl h
  | [a], _ => ⟨a, by simp, fun y hy => by rw [List.mem_singleton.mp hy]; split <;> exact Int.le_refl _⟩
  | a :: c :: l, _ => by
    obtain ⟨m, h1, h2⟩ := extr_ex b (l := c :: l) (by simp)
    cases b with
    | true =>
      by_cases hle : a ≤ m
      · exact ⟨a, by simp, fun y hy => by
          rcases List.mem_cons.mp hy with rfl | hy
          · exact Int.le_refl _
          · exact Int.le_trans hle (h2 y hy)⟩
      · exact ⟨m, by simp [h1], fun y hy => by
          rcases List.mem_cons.mp hy with rfl | hy
          · show m ≤ y; omega
          · exact h2 y hy⟩
    | false =>
      by_cases hle : m ≤ a
      · exact ⟨a, by simp, fun y hy => by
          rcases List.mem_cons.mp hy with rfl | hy
          · exact Int.le_refl _
          · exact Int.le_trans (h2 y hy) hle⟩
      · exact ⟨m, by simp [h1], fun y hy => by
          rcases List.mem_cons.mp hy with rfl | hy
          · show y ≤ m; omega
          · exact h2 y hy⟩
def swapP (p : Pr) : Pr := ⟨p.b, p.pb, p.a, p.pa, p.last⟩
theorem swap_inj (p q : Pr) (h : swapP p = swapP q) : p = q := by
  cases p; cases q
  simp only [swapP, Pr.mk.injEq] at h
  obtain ⟨rfl, rfl, rfl, rfl, rfl⟩ := h
  rfl
theorem lead_swap (h : Hall) (p : Pr) : lead h (swapP p) = -lead h p := by
  unfold lead swapP
  simp only
  omega
section
variable {h : Hall} {r s : Ru} {rs : Bool} {n N : Nat}
theorem bst_swap (k : Nat) : bst h s r rs k = mapB swapP (bst h r s rs k) := bst_map (nxt := behind h r s rs) (may := mayOf h rs) (nxt' := behind h s r rs) (may' := mayOf h rs) (φ := swapP) swap_inj (fun _ _ => rfl) (fun _ => rfl) (p0 := first h) k
theorem Fin.swap (x : Fin h r s rs n N) : Fin h s r rs n N := ⟨x.ho, x.so, x.ro, by rw [bst_swap]; show (bst h r s rs n).2.map swapP = []; rw [x.done]; rfl, by rw [bst_swap]; show ((bst h r s rs n).1.map _).length ≤ N; rw [List.length_map]; exact x.few⟩
theorem leads_swap (k : Nat) : leads h (bst h s r rs k).1 = (leads h (bst h r s rs k).1).map fun y => -y := by
  rw [bst_swap]
  unfold leads mapB
  rw [List.map_map, List.map_map]
  exact List.map_congr_left fun q _ => lead_swap h q.1
theorem extr_neg {b : Bool} {m : Int} {l : List Int} (x : Extr b m l) : Extr (!b) (-m) (l.map fun y => -y) := by
  refine ⟨List.mem_map.mpr ⟨m, x.1, rfl⟩, fun y hy => ?_⟩
  obtain ⟨z, hz, rfl⟩ := List.mem_map.mp hy
  have := x.2 z hz
  cases b with
  | true => simp only [if_true] at this; show -z ≤ -m; omega
  | false => simp only [Bool.false_eq_true, if_false] at this; show -m ≤ -z; omega
theorem dst_eq (k : Nat) : dst h r s rs k = lenB (bst h r s rs k) := (bst_rows k).2
theorem leads_d (k : Nat) : leads h (dst h r s rs k).1 = leads h (bst h r s rs k).1 := by
  rw [dst_eq]
  unfold leads lenB
  rw [List.map_map]
  rfl
theorem head_min {α : Type} {f : α → Nat} {P : α → Bool} {l : List α} (hp : (l.map f).Pairwise (· ≤ ·)) {a : α} (ha : (l.filter P).head? = some a) : Extr true (f a : Nat) ((l.filter P).map fun q => (f q : Int)) := by
  have h2 : ((l.filter P).map f).Pairwise (· ≤ ·) := hp.sublist (List.filter_sublist.map f)
  cases q : l.filter P with
  | nil => rw [q] at ha; cases ha
  | cons c t =>
    rw [q] at ha h2
    cases ha
    refine ⟨by simp, fun y hy => ?_⟩
    obtain ⟨z, hz, rfl⟩ := List.mem_map.mp hy
    simp only [if_true]
    rcases List.mem_cons.mp hz with rfl | hz
    · exact Int.le_refl _
    · have := (List.pairwise_cons.mp h2).1 (f z) (List.mem_map.mpr ⟨z, hz, rfl⟩)
      omega
theorem filter_lenB {P : Pr → Bool} (st : Bs (List Int)) : ((lenB st).1.filter fun q => P q.1).map (fun q => (q.2 : Int)) = (st.1.filter fun q => P q.1).map fun q => (q.2.length : Int) := by
  unfold lenB
  rw [List.filter_map, List.map_map]
  rfl
/-- the first row at what P says: it leads there, by as few calls as can be -/
theorem Fin.row (x : Fin h r s rs n N) (hN : N ≤ 20000) (P : Pr → Bool) {row : List Int} (hr : (((bst h r s rs n).1.filter fun q => P q.1).map (·.2)).head? = some row) :
    ∃ p, P p = true ∧ LeadsH h r s rs row p ∧ row.length ≤ 20000 ∧ Extr true (row.length : Nat) (((dst h r s rs n).1.filter fun q => P q.1).map fun q => (q.2 : Int)) := by
  rw [List.head?_map] at hr
  obtain ⟨q, hq, rfl⟩ := Option.map_eq_some_iff.mp hr
  have hm := List.mem_filter.mp (List.mem_of_mem_head? hq)
  refine ⟨q.1, hm.2, x.rows.way q hm.1, Nat.le_trans (x.short q hm.1) (Nat.le_trans x.few hN), ?_⟩
  rw [dst_eq, filter_lenB]
  exact head_min (f := fun q : Pr × List Int => q.2.length) (P := fun q => P q.1) x.rows.inc hq
theorem Fin.ne (x : Fin h r s rs n N) : leads h (bst h r s rs n).1 ≠ [] := by
  have h1 := bfs_len (nxt := behind h r s rs) (may := mayOf h rs) (val := fun _ => rowOf) ([(first h, [])], [first h]) (Nat.zero_le n)
  intro e
  have := congrArg List.length e
  rw [leads, List.length_map] at this
  have h2 : ([(first h, ([] : List Int))] : List (Pr × List Int)).length ≤ (bst h r s rs n).1.length := h1
  rw [this] at h2
  simp at h2
theorem Fin.at (x : Fin h r s rs n N) {g : Int} (hg : g ∈ leads h (bst h r s rs n).1) : ∃ row, (rowsAt h (bst h r s rs n).1 g).head? = some row := by
  obtain ⟨q, hq, e⟩ := List.mem_map.mp hg
  have hm : q ∈ (bst h r s rs n).1.filter fun q => decide (lead h q.1 = g) := List.mem_filter.mpr ⟨hq, decide_eq_true e⟩
  unfold rowsAt
  rw [List.head?_map]
  cases z : (bst h r s rs n).1.filter fun q => decide (lead h q.1 = g) with
  | nil => rw [z] at hm; cases hm
  | cons c t => exact ⟨_, rfl⟩
end
end G33
set_option Elab.async false
set_option linter.all false
set_option maxRecDepth 100000
set_option maxHeartbeats 1000000
namespace G33
open PySem
section
variable {h : Hall} {r s : Ru} {rs : Bool} {n N : Nat}
theorem Fin.keys (x : Fin h r s rs n N) : ∀ q ∈ (dst h r s rs n).1, PrOk h rs q.1 := fun q hq => by
  rw [dst_eq] at hq
  obtain ⟨z, hz, rfl⟩ := List.mem_map.mp hq
  exact leads_pr x.ho x.ro.ok x.so.ok (x.rows.way z hz)
theorem Fin.nd (x : Fin h r s rs n N) : ((dst h r s rs n).1.map (·.1)).Nodup := by
  rw [dst_eq]
  have := x.rows.once
  unfold Once at this
  unfold lenB
  rw [List.map_map]
  exact this
theorem Fin.dlen (x : Fin h r s rs n N) : (dst h r s rs n).1.length ≤ N := by
  rw [dst_eq]
  unfold lenB
  rw [List.length_map]
  exact x.few
theorem Fin.right (x : Fin h r s rs n 250) (sh : ∀ lo hi, lo ∈ leads h (bst h r s rs n).1 → hi ∈ leads h (bst h r s rs n).1 → Shown (toldD lo hi)) : ∃ lo hi rhi rlo, RightOk h r s rs (dst h r s rs n).1 (bst h r s rs n) (bst h s r rs n) lo hi rhi rlo := by
  obtain ⟨lo, xlo⟩ := extr_ex true x.ne
  obtain ⟨hi, xhi⟩ := extr_ex false x.ne
  obtain ⟨rhi, hhi⟩ := x.at xhi.1
  obtain ⟨rlo, hlo⟩ := x.at xlo.1
  obtain ⟨p1, e1, l1, k1, m1⟩ := x.row (by decide) (fun p => decide (lead h p = hi)) hhi
  obtain ⟨p2, e2, l2, k2, m2⟩ := x.row (by decide) (fun p => decide (lead h p = lo)) hlo
  have e1 := of_decide_eq_true e1
  have e2 := of_decide_eq_true e2
  have yl : Extr true (-hi) (leads h (bst h s r rs n).1) := by rw [leads_swap]; exact extr_neg xhi
  have yh : Extr false (-lo) (leads h (bst h s r rs n).1) := by rw [leads_swap]; exact extr_neg xlo
  refine ⟨lo, hi, rhi, rlo, x.go (by decide), x.swap.go (by decide), xlo, xhi, yl, yh, by rw [leads_d]; exact xlo, by rw [leads_d]; exact xhi, x.nd, x.dlen, fun q hq => (x.keys q hq).stG x.ho, hhi, hlo, m1, m2, e1 ▸ leads_way x.ho x.ro x.so l1 k1, e2 ▸ leads_way x.ho x.ro x.so l2 k2, ?_, sh lo hi xlo.1 xhi.1⟩
  cases q : (parting h (bst h r s rs n).1).head? with
  | none =>
    have q0 : parting h (bst h r s rs n).1 = [] := List.head?_eq_none_iff.mp q
    refine .inl ⟨q0, ?_⟩
    unfold apartD
    rw [dst_eq, filter_lenB (P := fun p => !decide (lead h p = 0))]
    unfold parting at q0
    rw [List.map_eq_nil_iff] at q0 ⊢
    exact q0
  | some row =>
    obtain ⟨p3, e3, l3, k3, m3⟩ := x.row (by decide) (fun p => !decide (lead h p = 0)) q
    refine .inr ⟨row, rfl, m3, lead h p3, ?_, leads_way x.ho x.ro x.so l3 k3⟩
    simpa using e3
end
end G33
set_option Elab.async false
set_option linter.all false
set_option maxRecDepth 100000
set_option maxHeartbeats 1000000
namespace G33
open PySem
theorem dLt_total {p q : Pr} (hn : p ≠ q) : dLt p q = true ∨ dLt q p = true := by
  cases h1 : dLt p q with
  | true => exact .inl rfl
  | false =>
    cases h2 : dLt q p with
    | true => exact .inr rfl
    | false =>
      exfalso
      unfold dLt PySem.W.dataLt at h1 h2
      have e := PyProof.Rows.lex_total (O := PyProof.Rows.itemOrd) _ _ h1 h2
      have t := (PySem.W.toks_eqv p.enc q.enc (alike_pr p q)).2 (by rw [eqv_pr, decide_eq_false hn])
      have a := t [] [.inl 0]
      rw [List.append_nil, ← e] at a
      have b := PySem.W.lex_pre (PySem.W.keyToks p.enc) [] [.inl 0]
      rw [List.append_nil] at b
      rw [a, PyProof.Rows.lex_irrefl] at b
      cases b
theorem prLe_eq (p q : Pr) : prLe p q = !dLt q p := rfl
theorem prLe_total : PySem.W.TotalLe prLe := PySem.W.sortLe_total _ false _
theorem table_perm {α : Type} (kv : List (Pr × α)) : (table kv).Perm (kv.map (·.1)) := List.mergeSort_perm _ _
theorem pairwise_zipP {R : Pr → Pr → Prop} : ∀ {l : List Pr}, l.Pairwise R → ∀ p ∈ l.zip l.tail, R p.1 p.2
  | [], _, p, hp => by simp at hp
  | [a], _, p, hp => by simp at hp
  | a :: b :: l, h, p, hp => by
    rw [List.tail_cons, List.zip_cons_cons] at hp
    rcases List.mem_cons.mp hp with rfl | hp
    · exact (List.pairwise_cons.mp h).1 b (by simp)
    · exact pairwise_zipP (List.pairwise_cons.mp h).2 p (by simpa using hp)
theorem table_srt {α : Type} {kv : List (Pr × α)} (hn : (kv.map (·.1)).Nodup) : ∀ q ∈ (table kv).zip (table kv).tail, dLt q.1 q.2 = true := by
  have h1 : (table kv).Pairwise fun a b => prLe a b = true := PySem.W.sort_pairwise prLe_total _
  have h2 : (table kv).Nodup := (table_perm kv).nodup_iff.mpr hn
  refine pairwise_zipP (R := fun a b => dLt a b = true) ((List.pairwise_and_iff.mpr ⟨h1, h2⟩).imp fun {a b} h => ?_)
  have h3 := h.1
  rw [prLe_eq, Bool.not_eq_true'] at h3
  rcases dLt_total h.2 with h4 | h4
  · exact h4
  · rw [h3] at h4; cases h4
section
variable {h : Hall} {r s : Ru} {rs : Bool} {n N : Nat}
theorem Fin.mem (x : Fin h r s rs n N) {p : Pr} : p ∈ table (bst h r s rs n).1 ↔ hasK (bst h r s rs n).1 p = true := by
  rw [(table_perm _).mem_iff, hasK_iff]
theorem Fin.tbl (x : Fin h r s rs n N) (hN : N ≤ 20000) {hi : Int} (xhi : Extr false hi (leads h (bst h r s rs n).1)) : TblOk h r s rs hi (table (bst h r s rs n).1) := by
  have key : ∀ p ∈ table (bst h r s rs n).1, ∃ row, (p, row) ∈ (bst h r s rs n).1 := fun p hp => by
    obtain ⟨q, hq, rfl⟩ := List.mem_map.mp ((table_perm _).mem_iff.mp hp)
    exact ⟨q.2, hq⟩
  refine ⟨x.ho, x.ro, x.so, fun p hp => ?_, (table_perm _).nodup_iff.mpr x.rows.once, ?_, table_srt x.rows.once, fun p hp => ?_, fun p hp f hf => ?_, ?_⟩
  · obtain ⟨row, hr⟩ := key p hp
    exact leads_pr x.ho x.ro.ok x.so.ok (x.rows.way _ hr)
  · rw [x.mem]
    obtain ⟨z, hz⟩ := bfs_grows (nxt := behind h r s rs) (may := mayOf h rs) (val := fun _ => rowOf) ([(first h, [])], [first h]) 0 n
    rw [Nat.zero_add] at hz
    rw [hz, hasK_iff, List.map_append, List.mem_append]
    exact .inl (by simp [bfs])
  · obtain ⟨row, hr⟩ := key p hp
    have := xhi.2 (lead h p) (List.mem_map.mpr ⟨_, hr, rfl⟩)
    simpa using this
  · rw [x.mem] at hp ⊢
    exact x.clo p hp f hf
  · rw [(table_perm _).length_eq, List.length_map]
    exact Nat.le_trans x.few hN
theorem Fin.paper (x : Fin h r s rs n 250) (sh : ∀ hi, hi ∈ leads h (bst h r s rs n).1 → Shown (.int hi) ∧ Shown (.tuple [.int hi, .tuple ((table (bst h r s rs n).1).map Pr.enc)])) : ∃ hi rhi, PaperOk h r s rs (dst h r s rs n).1 (bst h r s rs n) hi rhi := by
  obtain ⟨hi, xhi⟩ := extr_ex false x.ne
  obtain ⟨rhi, hhi⟩ := x.at xhi.1
  obtain ⟨p1, e1, l1, k1, m1⟩ := x.row (by decide) (fun p => decide (lead h p = hi)) hhi
  have e1 := of_decide_eq_true e1
  refine ⟨hi, rhi, x.go (by decide), xhi, by rw [leads_d]; exact xhi, x.nd, x.dlen, fun q hq => (x.keys q hq).stG x.ho, hhi, m1, e1 ▸ leads_way x.ho x.ro x.so l1 k1, x.tbl (by decide) xhi, ⟨x.ho, x.ro, x.so, leads_may l1, by rw [leads_end l1]; exact e1, k1⟩, ?_, (sh hi xhi.1).2, (sh hi xhi.1).1⟩
  rw [dst_eq]
  unfold table lenB
  rw [List.map_map]
  rfl
end
end G33
set_option Elab.async false
set_option linter.all false
set_option maxRecDepth 100000
set_option maxHeartbeats 1000000
namespace G33
open PySem
theorem worth_sum : ∀ (fs c : List Int), (∀ f ∈ fs, 1 ≤ f ∧ f ≤ 99) → (∀ x ∈ c, 0 ≤ x) → 0 ≤ ((fs.zip c).map fun p => p.1 * p.2).sum ∧ ((fs.zip c).map fun p => p.1 * p.2).sum ≤ 99 * c.sum
  | [], c, _, hc => by
    have h := le_sum hc
    have : 0 ≤ c.sum := by
      cases c with
      | nil => exact Int.le_refl 0
      | cons a l => have h1 := hc a (by simp); have h2 := h a (by simp); omega
    simp only [List.zip_nil_left, List.map_nil, List.sum_nil]
    omega
  | f :: fs, [], _, _ => by simp
  | f :: fs, x :: c, hf, hc => by
    have ih := worth_sum fs c (fun z hz => hf z (by simp [hz])) (fun z hz => hc z (by simp [hz]))
    have h1 := hf f (by simp)
    have h2 := hc x (by simp)
    have h3 : 0 ≤ f * x := Int.mul_nonneg (by omega) h2
    have h4 : f * x ≤ 99 * x := Int.mul_le_mul_of_nonneg_right h1.2 h2
    simp only [List.zip_cons_cons, List.map_cons, List.sum_cons]
    omega
theorem worth_le {h : Hall} {c : List Int} (ho : h.Ok) (hc : CntOk h c) : 0 ≤ worth h c ∧ worth h c ≤ 594 := by
  have := worth_sum h.fares c ho.fr hc.nn
  have h1 := hc.sm
  have h2 := ho.s6
  unfold worth
  omega
section
variable {h : Hall} {r s : Ru} {rs : Bool}
theorem leads_paid (ho : h.Ok) (hr : r.Ok h) (hs : s.Ok h) {row : List Int} {p : Pr} (x : LeadsH h r s rs row p) : p.pa ≤ 99 * (row.length : Int) ∧ p.pb ≤ 99 * (row.length : Int) := by
  induction x with
  | nil => exact ⟨Int.le_refl 0, Int.le_refl 0⟩
  | snoc x hf ih =>
    rename_i row p f
    obtain ⟨n, rfl, hn⟩ := may_lt hf
    have hp := leads_pr ho hr hs x
    have h1 := (step_cnt (pd := p.pa) (f := n) hp.a hr hn).2.2
    have h2 := (step_cnt (pd := p.pb) (f := n) hp.b hs hn).2.2
    have e : ((row ++ [(n : Int)]).length : Int) = row.length + 1 := by rw [List.length_append]; rfl
    rw [e]
    constructor
    · show (step h r p.a p.pa n).paid ≤ _; omega
    · show (step h s p.b p.pb n).paid ≤ _; omega
theorem leads_bound (ho : h.Ok) (hr : r.Ok h) (hs : s.Ok h) {row : List Int} {p : Pr} (x : LeadsH h r s rs row p) (hl : row.length ≤ 20000) : -2000000 ≤ lead h p ∧ lead h p ≤ 2000000 := by
  have hp := leads_pr ho hr hs x
  have h1 := worth_le ho hp.a
  have h2 := worth_le ho hp.b
  have h3 := leads_paid ho hr hs x
  have h4 := hp.pa
  have h5 := hp.pb
  unfold lead
  omega
end
end G33
set_option Elab.async false
set_option linter.all false
set_option maxRecDepth 100000
set_option maxHeartbeats 1000000
namespace G33
open PySem
/-- what repr asks of the numbers and of the size -/
structure Nc (w : Nat) (d : PyData) : Prop where
  show_ : d.showable = true
  short : d.intsShort 13 = true
  wt : d.weight ≤ w
theorem nc_int {i : Int} (h : i.natAbs ≤ 1000000000) : Nc 31 (.int i) := by
  have hl : i.natAbs.log2 < 31 := by
    by_cases h0 : i.natAbs = 0
    · rw [h0]; decide
    · exact (Nat.log2_lt h0).mpr (Nat.lt_of_le_of_lt h (by decide))
  refine ⟨by rw [PyData.showable]; exact decide_eq_true (by omega), ?_, ?_⟩
  · rw [PyData.intsShort]
    refine decide_eq_true ?_
    rw [PyData.shown]
    have e := int_text_length_le10 (a := i) (k := 10) (by decide) (Nat.lt_of_le_of_lt h (by decide))
    rw [ofString_length]
    omega
  · rw [PyData.weight]
    split <;> omega
theorem nc_bool (b : Bool) {w : Nat} : Nc w (.bool b) := ⟨by rw [PyData.showable], by rw [PyData.intsShort], by rw [PyData.weight]; exact Nat.zero_le _⟩
theorem nc_all {w : Nat} : ∀ {xs : List PyData}, (∀ x ∈ xs, Nc w x) → PyData.showableAll xs = true ∧ PyData.intsShortAll 13 xs = true ∧ PyData.weightAll xs ≤ (w + 1) * xs.length
  | [], _ => ⟨by rw [PyData.showableAll], by rw [PyData.intsShortAll], by rw [PyData.weightAll]; exact Nat.zero_le _⟩
  | x :: xs, h => by
    have h1 := h x (by simp)
    obtain ⟨a, b, c⟩ := nc_all (xs := xs) fun y hy => h y (by simp [hy])
    refine ⟨by rw [PyData.showableAll, h1.show_, a]; rfl, by rw [PyData.intsShortAll, h1.short, b]; rfl, ?_⟩
    have := h1.wt
    rw [PyData.weightAll, List.length_cons, Nat.mul_succ]
    omega
theorem nc_tup {w n v : Nat} {xs : List PyData} (h : ∀ x ∈ xs, Nc w x) (hl : xs.length ≤ n) (hv : (w + 1) * n ≤ v) : Nc v (.tuple xs) := by
  obtain ⟨a, b, c⟩ := nc_all h
  exact ⟨by rw [PyData.showable]; exact a, by rw [PyData.intsShort]; exact b, by rw [PyData.weight]; exact Nat.le_trans c (Nat.le_trans (Nat.mul_le_mul_left _ hl) hv)⟩
theorem nc_lst {w n v : Nat} {xs : List PyData} (h : ∀ x ∈ xs, Nc w x) (hl : xs.length ≤ n) (hv : (w + 1) * n ≤ v) : Nc v (.list xs) := by
  obtain ⟨a, b, c⟩ := nc_all h
  exact ⟨by rw [PyData.showable]; exact a, by rw [PyData.intsShort]; exact b, by rw [PyData.weight]; exact Nat.le_trans c (Nat.le_trans (Nat.mul_le_mul_left _ hl) hv)⟩
theorem Nc.le {w v : Nat} {d : PyData} (h : Nc w d) (hv : w ≤ v) : Nc v d := ⟨h.show_, h.short, Nat.le_trans h.wt hv⟩
theorem shown_of {d : PyData} {w : Nat} (s : Shp 60 d) (n : Nc w d) (hw : w ≤ 2 ^ 20) (way : (∃ i, d = .int i) ∨ (∃ xs, d = .tuple xs) ∨ ∃ xs, d = .list xs) : Shown d := by
  refine ⟨s, n.show_, ?_, way⟩
  have hl : PyData.layable0 d = true := by
    unfold PyData.layable0
    rw [s.lay, decide_eq_true (Nat.le_trans s.dep (by decide)), decide_eq_true (Nat.le_trans n.wt hw)]
    rfl
  exact Nat.le_trans (PyProof.Rows.shown_le13 hl n.short) (by decide)
end G33
set_option Elab.async false
set_option linter.all false
set_option maxRecDepth 100000
set_option maxHeartbeats 1000000
namespace G33
open PySem
theorem shown_int {i : Int} (h : -2000000 ≤ i ∧ i ≤ 2000000) : Shown (.int i) := shown_of (shp_int i) (nc_int (by omega)) (by decide) (.inl ⟨i, rfl⟩)
theorem shown_told {lo hi : Int} (h1 : -2000000 ≤ lo ∧ lo ≤ 2000000) (h2 : -2000000 ≤ hi ∧ hi ≤ 2000000) : Shown (toldD lo hi) := by
  have pr : ∀ a b : Int, -2000000 ≤ a ∧ a ≤ 2000000 → -2000000 ≤ b ∧ b ≤ 2000000 → Nc 64 (.tuple [.int a, .int b]) ∧ Shp 59 (.tuple [.int a, .int b]) := fun a b ha hb => by
    refine ⟨nc_tup (w := 31) (n := 2) (fun x hx => ?_) (by simp) (by decide), shp_tup fun x hx => ?_⟩
    · simp only [List.mem_cons, List.not_mem_nil, or_false] at hx
      rcases hx with rfl | rfl <;> exact nc_int (by omega)
    · simp only [List.mem_cons, List.not_mem_nil, or_false] at hx
      rcases hx with rfl | rfl <;> exact shp_int _
  have a := pr lo hi h1 h2
  have b := pr (-hi) (-lo) (by omega) (by omega)
  refine shown_of (w := 65 * 4) (shp_lst fun x hx => ?_) (nc_lst (w := 64) (n := 4) (fun x hx => ?_) (by simp) (by decide)) (by decide) (.inr (.inr ⟨_, rfl⟩))
  · simp only [List.mem_cons, List.not_mem_nil, or_false] at hx
    rcases hx with rfl | rfl | rfl | rfl
    · exact a.2
    · exact shp_bool _
    · exact shp_bool _
    · exact b.2
  · simp only [List.mem_cons, List.not_mem_nil, or_false] at hx
    rcases hx with rfl | rfl | rfl | rfl
    · exact a.1
    · exact nc_bool _
    · exact nc_bool _
    · exact b.1
theorem nc_encL {l : List Int} {n : Nat} (h : ∀ x ∈ l, x.natAbs ≤ 1000000000) (hl : l.length ≤ n) : Nc (32 * n) (encL l) := nc_tup (w := 31) (n := n) (fun x hx => by
  obtain ⟨a, ha, rfl⟩ := List.mem_map.mp hx
  exact nc_int (h a ha)) (by rw [List.length_map]; exact hl) (Nat.le_refl _)
theorem nc_pr {h : Hall} {rs : Bool} {p : Pr} (ho : h.Ok) (hp : PrOk h rs p) (ha : p.pa ≤ 1000000000) (hb : p.pb ≤ 1000000000) : Nc 645 p.enc := by
  have h4 := ho.n4
  have c : ∀ l : List Int, CntOk h l → Nc 128 (encL l) := fun l hl => nc_encL (n := 4) (fun x hx => by
    have h1 := hl.nn x hx
    have h2 := cnt6 ho hl x hx
    omega) (by rw [hl.len]; exact h4)
  have h1 := hp.pa
  have h2 := hp.pb
  have h3 := hp.lo
  have h5 := hp.hi
  have h6 : p.last ≤ 100 := by split at h5 <;> omega
  refine nc_tup (w := 128) (n := 5) (fun x hx => ?_) (by simp) (by decide)
  simp only [List.mem_cons, List.not_mem_nil, or_false] at hx
  rcases hx with rfl | rfl | rfl | rfl | rfl
  · exact c _ hp.a
  · exact (nc_int (by omega)).le (by decide)
  · exact c _ hp.b
  · exact (nc_int (by omega)).le (by decide)
  · exact (nc_int (by omega)).le (by decide)
section
variable {h : Hall} {r s : Ru} {rs : Bool} {n N : Nat}
theorem Fin.lead_b (x : Fin h r s rs n N) (hN : N ≤ 20000) : ∀ y ∈ leads h (bst h r s rs n).1, -2000000 ≤ y ∧ y ≤ 2000000 := fun y hy => by
  obtain ⟨q, hq, rfl⟩ := List.mem_map.mp hy
  exact (leads_bound x.ho x.ro.ok x.so.ok (x.rows.way q hq) (Nat.le_trans (x.short q hq) (Nat.le_trans x.few hN)))
theorem Fin.right' (x : Fin h r s rs n 250) : ∃ lo hi rhi rlo, RightOk h r s rs (dst h r s rs n).1 (bst h r s rs n) (bst h s r rs n) lo hi rhi rlo :=
  x.right fun lo hi h1 h2 => shown_told (x.lead_b (by decide) lo h1) (x.lead_b (by decide) hi h2)
theorem Fin.paper' (x : Fin h r s rs n 250) : ∃ hi rhi, PaperOk h r s rs (dst h r s rs n).1 (bst h r s rs n) hi rhi := by
  refine x.paper fun hi h1 => ⟨shown_int (x.lead_b (by decide) hi h1), ?_⟩
  have hb := x.lead_b (by decide) hi h1
  have ht : Nc (646 * 250) (.tuple ((table (bst h r s rs n).1).map Pr.enc)) := nc_tup (w := 645) (n := 250) (fun y hy => by
    obtain ⟨p, hp, rfl⟩ := List.mem_map.mp hy
    obtain ⟨q, hq, rfl⟩ := List.mem_map.mp ((table_perm _).mem_iff.mp hp)
    have w := x.rows.way q hq
    have hl := Nat.le_trans (x.short q hq) x.few
    have pd := leads_paid x.ho x.ro.ok x.so.ok w
    exact nc_pr x.ho (leads_pr x.ho x.ro.ok x.so.ok w) (by omega) (by omega)) (by rw [List.length_map, (table_perm _).length_eq, List.length_map]; exact x.few) (Nat.le_refl _)
  refine shown_of (w := 161501 * 2) (shp_tup fun y hy => ?_) (nc_tup (w := 161500) (n := 2) (fun y hy => ?_) (by simp) (by decide)) (by decide) (.inr (.inl ⟨_, rfl⟩))
  · simp only [List.mem_cons, List.not_mem_nil, or_false] at hy
    rcases hy with rfl | rfl
    · exact shp_int _
    · exact shp_prs _ (n := 56)
  · simp only [List.mem_cons, List.not_mem_nil, or_false] at hy
    rcases hy with rfl | rfl
    · exact (nc_int (by omega)).le (by decide)
    · exact ht
end
end G33
set_option Elab.async false
set_option linter.all false
set_option maxRecDepth 100000
set_option maxHeartbeats 1000000
namespace G33
open PySem
/-! ### the closed end -/
def h2 : Hall := ⟨2, [10, 25]⟩
def rAll : Ru := .plain .apart [2, 2]
def rKept : Ru := .plain .nested [1, 2]
def rK : Ru := .plain .kept [1, 0]
def rO15 : Ru := .oust rKept 15
def rO5 : Ru := .oust rKept 5
theorem z1 : (bst h2 rAll rKept false 9).2 = [] ∧ (bst h2 rAll rKept true 9).2 = [] ∧ (bst h2 rKept rAll false 9).2 = [] ∧ (bst h2 rKept rK false 9).2 = [] ∧ (bst h2 rO15 rKept false 9).2 = [] ∧ (bst h2 rO5 rKept false 9).2 = [] := by decide +kernel
def extrB (b : Bool) (m : Int) (l : List Int) : Bool := l.contains m && l.all fun y => if b then decide (m ≤ y) else decide (y ≤ m)
theorem extr_of {b : Bool} {m : Int} {l : List Int} (h : extrB b m l = true) : Extr b m l := by
  unfold extrB at h
  rw [Bool.and_eq_true] at h
  refine ⟨by simpa using h.1, fun y hy => ?_⟩
  have := List.all_eq_true.mp h.2 y hy
  cases b <;> simpa using this
theorem z2 : extrB true (-15) (leads h2 (bst h2 rAll rKept false 9).1) = true ∧ extrB false 10 (leads h2 (bst h2 rAll rKept false 9).1) = true := by decide +kernel
theorem z3 : (rowsAt h2 (bst h2 rAll rKept false 9).1 10).head? = some [0, 0] := by decide +kernel
theorem z4 : ∃ g, extrB true g (leads h2 (bst h2 rAll rKept true 9).1) = true ∧ (rowsAt h2 (bst h2 rAll rKept true 9).1 g).head? = some [0, 0, 1] := ⟨-15, by decide +kernel⟩
theorem z5 : (parting h2 (bst h2 rKept rAll false 9).1).head? = some [0, 0] := by decide +kernel
theorem z6 : ((leads h2 (bst h2 rKept rK false 9).1).any fun y => !decide (y = 0)) = true := by decide +kernel
theorem z7 : ∃ lo hi, extrB true lo (leads h2 (bst h2 rO15 rKept false 9).1) = true ∧ extrB false hi (leads h2 (bst h2 rO15 rKept false 9).1) = true ∧ decide (0 ≤ lo) = true := ⟨0, 0, by decide +kernel⟩
theorem z8 : extrB true 0 (leads h2 (bst h2 rO5 rKept false 9).1) = true ∧ extrB false 10 (leads h2 (bst h2 rO5 rKept false 9).1) = true := by decide +kernel
theorem z9 : ∃ lo hi, extrB true lo (leads h2 (bst h2 rKept rAll false 9).1) = true ∧ extrB false hi (leads h2 (bst h2 rKept rAll false 9).1) = true ∧ decide (0 ≤ lo) = false := ⟨-10, 15, by decide +kernel⟩
end G33
set_option Elab.async false
set_option linter.all false
set_option maxRecDepth 100000
set_option maxHeartbeats 4000000
namespace G33
open PySem
/-! ### the hall of six seats: few pair states -/
def h6 : Hall := ⟨6, [1, 2, 3, 4]⟩
def rA6 : Ru := .plain .apart [6, 6, 6, 6]
def rK6 : Ru := .plain .apart [3, 2, 2, 3]
theorem ok_h6 : h6.Ok := ⟨by decide, by decide, by decide, by decide, by decide, by decide⟩
theorem ok_h2 : h2.Ok := ⟨by decide, by decide, by decide, by decide, by decide, by decide⟩
theorem ru_plain {h : Hall} {p : Pw} {l : List Int} (h1 : LimOk h p l) : RuOk h (.plain p l) := ⟨h1, by show 0 ≤ 3; decide, by show 1 ≤ 7; decide⟩
theorem ru_A6 : RuOk h6 rA6 := ru_plain ⟨rfl, by decide, fun e => nomatch e⟩
theorem ru_K6 : RuOk h6 rK6 := ru_plain ⟨rfl, by decide, fun e => nomatch e⟩
def lim4 : List Int := [3, 2, 2, 3]
/-- what comes -/
def Q6 (p : Pr) : Prop := ∃ a b c d x y z u : Int, p = ⟨[a, b, c, d], 0, [x, y, z, u], 0, -1⟩ ∧ 0 ≤ a ∧ 0 ≤ b ∧ 0 ≤ c ∧ 0 ≤ d ∧ 0 ≤ x ∧ 0 ≤ y ∧ 0 ≤ z ∧ 0 ≤ u ∧ x ≤ 3 ∧ y ≤ 2 ∧ z ≤ 2 ∧ u ≤ 3 ∧ a + b + c + d ≤ 6 ∧
  (a + b + c + d < 6 → x = min a 3 ∧ y = min b 2 ∧ z = min c 2 ∧ u = min d 3)
theorem step_A6 {a b c d : Int} (f : Nat) (hf : f < 4) (h0 : 0 ≤ a ∧ 0 ≤ b ∧ 0 ≤ c ∧ 0 ≤ d) (hs : a + b + c + d < 6) : step h6 rA6 [a, b, c, d] 0 f = ⟨bump [a, b, c, d] f 1, 0, "taken"⟩ := by
  have h1 : ([a, b, c, d] : List Int).sum < h6.seats := by simp only [List.sum_cons, List.sum_nil]; show _ < (6 : Int); omega
  have h2 : lets h6 rA6 [a, b, c, d] f = true := by
    show decide (([a, b, c, d] : List Int).getD f 0 < ([6, 6, 6, 6] : List Int).getD f 0) = true
    refine decide_eq_true ?_
    match f, hf with
    | 0, _ => show a < 6; omega
    | 1, _ => show b < 6; omega
    | 2, _ => show c < 6; omega
    | 3, _ => show d < 6; omega
  unfold step
  rw [if_pos ⟨h1, h2⟩]
theorem step_A6' {a b c d : Int} (f : Nat) (hs : ¬ a + b + c + d < 6) : step h6 rA6 [a, b, c, d] 0 f = ⟨[a, b, c, d], 0, "refused"⟩ := by
  have h1 : ¬ ([a, b, c, d] : List Int).sum < h6.seats := by simp only [List.sum_cons, List.sum_nil]; show ¬ _ < (6 : Int); omega
  unfold step
  rw [if_neg fun h => h1 h.1]
  rfl
theorem step_K6 {x y z u : Int} (f : Nat) : step h6 rK6 [x, y, z, u] 0 f = if x + y + z + u < 6 ∧ ([x, y, z, u] : List Int).getD f 0 < ([3, 2, 2, 3] : List Int).getD f 0 then ⟨bump [x, y, z, u] f 1, 0, "taken"⟩ else ⟨[x, y, z, u], 0, "refused"⟩ := by
  have e1 : ([x, y, z, u] : List Int).sum < h6.seats ↔ x + y + z + u < 6 := by
    simp only [List.sum_cons, List.sum_nil]
    show x + (y + (z + (u + 0))) < (6 : Int) ↔ _
    omega
  have e2 : lets h6 rK6 [x, y, z, u] f = true ↔ ([x, y, z, u] : List Int).getD f 0 < ([3, 2, 2, 3] : List Int).getD f 0 := by
    show decide _ = true ↔ _
    exact decide_eq_true_iff
  unfold step
  by_cases hc : x + y + z + u < 6 ∧ ([x, y, z, u] : List Int).getD f 0 < ([3, 2, 2, 3] : List Int).getD f 0
  · rw [if_pos hc, if_pos ⟨e1.mpr hc.1, e2.mpr hc.2⟩]
  · rw [if_neg hc, if_neg fun h => hc ⟨e1.mp h.1, e2.mp h.2⟩]
    rfl
theorem q6_first : Q6 (first h6) := ⟨0, 0, 0, 0, 0, 0, 0, 0, rfl, by omega⟩
theorem q6_next {p : Pr} {f : Int} (hp : Q6 p) (hf : f ∈ mayOf h6 false p) : Q6 (behind h6 rA6 rK6 false p f) := by
  obtain ⟨n, rfl, hn⟩ := may_lt hf
  obtain ⟨a, b, c, d, x, y, z, u, rfl, h1, h2, h3, h4, h5, h6', h7, h8, h9, h10, h11, h12, hs, hm⟩ := hp
  have hn : n < 4 := hn
  show Q6 ⟨(step h6 rA6 [a, b, c, d] 0 n).sold, (step h6 rA6 [a, b, c, d] 0 n).paid, (step h6 rK6 [x, y, z, u] 0 n).sold, (step h6 rK6 [x, y, z, u] 0 n).paid, -1⟩
  rw [step_K6]
  by_cases hlt : a + b + c + d < 6
  · rw [step_A6 n hn ⟨h1, h2, h3, h4⟩ hlt]
    have hm := hm hlt
    match n, hn with
    | 0, _ =>
      by_cases hk : x < 3
      · rw [if_pos ⟨by omega, hk⟩]
        exact ⟨a + 1, b, c, d, x + 1, y, z, u, rfl, by omega⟩
      · rw [if_neg (fun h => hk h.2)]
        exact ⟨a + 1, b, c, d, x, y, z, u, rfl, by omega⟩
    | 1, _ =>
      by_cases hk : y < 2
      · rw [if_pos ⟨by omega, hk⟩]
        exact ⟨a, b + 1, c, d, x, y + 1, z, u, rfl, by omega⟩
      · rw [if_neg (fun h => hk h.2)]
        exact ⟨a, b + 1, c, d, x, y, z, u, rfl, by omega⟩
    | 2, _ =>
      by_cases hk : z < 2
      · rw [if_pos ⟨by omega, hk⟩]
        exact ⟨a, b, c + 1, d, x, y, z + 1, u, rfl, by omega⟩
      · rw [if_neg (fun h => hk h.2)]
        exact ⟨a, b, c + 1, d, x, y, z, u, rfl, by omega⟩
    | 3, _ =>
      by_cases hk : u < 3
      · rw [if_pos ⟨by omega, hk⟩]
        exact ⟨a, b, c, d + 1, x, y, z, u + 1, rfl, by omega⟩
      · rw [if_neg (fun h => hk h.2)]
        exact ⟨a, b, c, d + 1, x, y, z, u, rfl, by omega⟩
  · rw [step_A6' n hlt]
    by_cases hk : x + y + z + u < 6 ∧ ([x, y, z, u] : List Int).getD n 0 < ([3, 2, 2, 3] : List Int).getD n 0
    · rw [if_pos hk]
      obtain ⟨_, hk⟩ := hk
      match n, hn with
      | 0, _ =>
        have hk : x < 3 := hk
        exact ⟨a, b, c, d, x + 1, y, z, u, rfl, by omega⟩
      | 1, _ =>
        have hk : y < 2 := hk
        exact ⟨a, b, c, d, x, y + 1, z, u, rfl, by omega⟩
      | 2, _ =>
        have hk : z < 2 := hk
        exact ⟨a, b, c, d, x, y, z + 1, u, rfl, by omega⟩
      | 3, _ =>
        have hk : u < 3 := hk
        exact ⟨a, b, c, d, x, y, z, u + 1, rfl, by omega⟩
    · rw [if_neg hk]
      exact ⟨a, b, c, d, x, y, z, u, rfl, h1, h2, h3, h4, h5, h6', h7, h8, h9, h10, h11, h12, hs, fun h => absurd h hlt⟩
theorem q6_leads {row : List Int} {p : Pr} (x : LeadsH h6 rA6 rK6 false row p) : Q6 p := by
  induction x with
  | nil => exact q6_first
  | snoc x hf ih => exact q6_next ih hf
/-! all of them, in a list -/
def upTo (n : Nat) : List Int := (List.range (n + 1)).map Int.ofNat
theorem mem_upTo {n : Nat} {x : Int} (h0 : 0 ≤ x) (h1 : x ≤ (n : Int)) : x ∈ upTo n := List.mem_map.mpr ⟨x.toNat, List.mem_range.mpr (by omega), by show ((x.toNat : Nat) : Int) = x; omega⟩
def quads (i j k l : Nat) : List (List Int) := (upTo i).flatMap fun a => (upTo j).flatMap fun b => (upTo k).flatMap fun c => (upTo l).map fun d => [a, b, c, d]
theorem mem_quads {i j k l : Nat} {a b c d : Int} (ha : 0 ≤ a ∧ a ≤ (i : Int)) (hb : 0 ≤ b ∧ b ≤ (j : Int)) (hc : 0 ≤ c ∧ c ≤ (k : Int)) (hd : 0 ≤ d ∧ d ≤ (l : Int)) : [a, b, c, d] ∈ quads i j k l :=
  List.mem_flatMap.mpr ⟨a, mem_upTo ha.1 ha.2, List.mem_flatMap.mpr ⟨b, mem_upTo hb.1 hb.2, List.mem_flatMap.mpr ⟨c, mem_upTo hc.1 hc.2, List.mem_map.mpr ⟨d, mem_upTo hd.1 hd.2, rfl⟩⟩⟩⟩
def low6 : List (List Int) := (quads 6 6 6 6).filter fun l => decide (l.sum < 6)
def top6 : List (List Int) := (quads 6 6 6 6).filter fun l => decide (l.sum = 6)
def min4 (l : List Int) : List Int := (l.zip lim4).map fun p => min p.1 p.2
def all6 : List Pr := low6.map (fun l => ⟨l, 0, min4 l, 0, -1⟩) ++ top6.flatMap fun l => (quads 3 2 2 3).map fun m => ⟨l, 0, m, 0, -1⟩
theorem q6_mem {p : Pr} (h : Q6 p) : p ∈ all6 := by
  obtain ⟨a, b, c, d, x, y, z, u, rfl, h1, h2, h3, h4, h5, h6', h7, h8, h9, h10, h11, h12, hs, hm⟩ := h
  have hq : [a, b, c, d] ∈ quads 6 6 6 6 := mem_quads ⟨h1, by show a ≤ 6; omega⟩ ⟨h2, by show b ≤ 6; omega⟩ ⟨h3, by show c ≤ 6; omega⟩ ⟨h4, by show d ≤ 6; omega⟩
  have es : ([a, b, c, d] : List Int).sum = a + b + c + d := by simp only [List.sum_cons, List.sum_nil]; omega
  unfold all6
  rw [List.mem_append]
  by_cases hlt : a + b + c + d < 6
  · refine .inl (List.mem_map.mpr ⟨[a, b, c, d], List.mem_filter.mpr ⟨hq, by rw [es]; exact decide_eq_true hlt⟩, ?_⟩)
    obtain ⟨e1, e2, e3, e4⟩ := hm hlt
    show (⟨[a, b, c, d], 0, [min a 3, min b 2, min c 2, min d 3], 0, -1⟩ : Pr) = _
    rw [← e1, ← e2, ← e3, ← e4]
  · refine .inr (List.mem_flatMap.mpr ⟨[a, b, c, d], List.mem_filter.mpr ⟨hq, by rw [es]; exact decide_eq_true (by omega)⟩, List.mem_map.mpr ⟨[x, y, z, u], mem_quads ⟨h5, h9⟩ ⟨h6', h10⟩ ⟨h7, h11⟩ ⟨h8, h12⟩, rfl⟩⟩)
theorem all6_len : all6.length ≤ 20000 := by
  unfold all6
  have e : ∀ l : List (List Int), (l.flatMap fun l => (quads 3 2 2 3).map fun m => (⟨l, 0, m, 0, -1⟩ : Pr)).length = 144 * l.length := by
    intro l
    induction l with
    | nil => rfl
    | cons a l ih =>
      rw [List.flatMap_cons, List.length_append, ih, List.length_map, List.length_cons, show (quads 3 2 2 3).length = 144 by decide +kernel]
      omega
  rw [List.length_append, List.length_map, e, show low6.length = 126 by decide +kernel, show top6.length = 84 by decide +kernel]
  decide
theorem few6 (k : Nat) : (bst h6 rA6 rK6 false k).1.length ≤ 20000 := by
  have r := (bst_rows (nxt := behind h6 rA6 rK6 false) (may := mayOf h6 false) (p0 := first h6) k).1
  have h := nodup_len (l := (bst h6 rA6 rK6 false k).1.map fun q : Pr × List Int => q.1) (S := all6) r.once fun p hp => by
    obtain ⟨q, hq, rfl⟩ := List.mem_map.mp hp
    exact q6_mem (q6_leads (r.way q hq))
  rw [List.length_map] at h
  exact Nat.le_trans h all6_len
theorem fin6 : ∃ n, Fin h6 rA6 rK6 false n 20000 := by
  obtain ⟨n, hn⟩ := bst_ends few6
  exact ⟨n, ok_h6, ru_A6, ru_K6, hn, few6 n⟩
/-! ### the hall of two seats -/
theorem ru_rAll : RuOk h2 rAll := ru_plain ⟨rfl, by decide, fun e => nomatch e⟩
theorem lm_rKept : LimOk h2 .nested [1, 2] := ⟨rfl, by decide, fun _ => by decide⟩
theorem ru_rKept : RuOk h2 rKept := ru_plain lm_rKept
theorem ru_rK : RuOk h2 rK := ru_plain ⟨rfl, by decide, fun e => nomatch e⟩
theorem ru_oust {f : Int} (h0 : 0 ≤ f) (h1 : f ≤ 99) : RuOk h2 (.oust rKept f) := ⟨⟨lm_rKept, h0, h1⟩, by show 1 + 0 ≤ 3; decide, by show 1 + 1 ≤ 7; decide⟩
theorem few2 : (bst h2 rAll rKept false 9).1.length ≤ 20000 ∧ (bst h2 rAll rKept true 9).1.length ≤ 20000 ∧ (bst h2 rKept rAll false 9).1.length ≤ 20000 ∧ (bst h2 rKept rK false 9).1.length ≤ 20000 ∧ (bst h2 rO15 rKept false 9).1.length ≤ 20000 ∧ (bst h2 rO5 rKept false 9).1.length ≤ 20000 := by decide +kernel
theorem finA : Fin h2 rAll rKept false 9 20000 := ⟨ok_h2, ru_rAll, ru_rKept, z1.1, few2.1⟩
theorem finB : Fin h2 rAll rKept true 9 20000 := ⟨ok_h2, ru_rAll, ru_rKept, z1.2.1, few2.2.1⟩
theorem finC : Fin h2 rKept rAll false 9 20000 := ⟨ok_h2, ru_rKept, ru_rAll, z1.2.2.1, few2.2.2.1⟩
theorem finD : Fin h2 rKept rK false 9 20000 := ⟨ok_h2, ru_rKept, ru_rK, z1.2.2.2.1, few2.2.2.2.1⟩
theorem finE : Fin h2 rO15 rKept false 9 20000 := ⟨ok_h2, ru_oust (by decide) (by decide), ru_rKept, z1.2.2.2.2.1, few2.2.2.2.2.1⟩
theorem finF : Fin h2 rO5 rKept false 9 20000 := ⟨ok_h2, ru_oust (by decide) (by decide), ru_rKept, z1.2.2.2.2.2, few2.2.2.2.2.2⟩
/-- what the closed end tells -/
abbrev endD : PyData := .list [.tuple [.int (-15), .int 10], encL [0, 0], encL [0, 0, 1], encL [0, 0], .bool false, .bool true, .tuple [.int 0, .int 10], .bool false]
theorem shown_end : Shown endD := by
  have nI : ∀ l : List Int, (∀ x ∈ l, x.natAbs ≤ 1000000000) → l.length ≤ 4 → Nc 128 (encL l) := fun l h1 h2 => nc_encL (n := 4) h1 h2
  refine shown_of (w := 129 * 8) (shp_lst fun x hx => ?_) (nc_lst (w := 128) (n := 8) (fun x hx => ?_) (by simp) (by decide)) (by decide) (.inr (.inr ⟨_, rfl⟩))
  · simp only [List.mem_cons, List.not_mem_nil, or_false] at hx
    rcases hx with rfl | rfl | rfl | rfl | rfl | rfl | rfl | rfl
    · exact shp_encL [-15, 10]
    · exact shp_encL _
    · exact shp_encL _
    · exact shp_encL _
    · exact shp_bool _
    · exact shp_bool _
    · exact shp_encL [0, 10]
    · exact shp_bool _
  · simp only [List.mem_cons, List.not_mem_nil, or_false] at hx
    rcases hx with rfl | rfl | rfl | rfl | rfl | rfl | rfl | rfl
    · exact nI [-15, 10] (by decide) (by decide)
    · exact nI _ (by decide) (by decide)
    · exact nI _ (by decide) (by decide)
    · exact nI _ (by decide) (by decide)
    · exact nc_bool _
    · exact nc_bool _
    · exact nI [0, 10] (by decide) (by decide)
    · exact nc_bool _
end G33
set_option Elab.async false
set_option linter.all false
set_option maxRecDepth 100000
set_option maxHeartbeats 4000000
namespace G33
open PySem
/-! ### what a turn of the law shows -/
theorem nc_str {x : Str} {w : Nat} (h : x.cps.size ≤ w) : Nc w (.str x) := ⟨by rw [PyData.showable], by rw [PyData.intsShort], by rw [PyData.weight]; exact h⟩
def Bw : Nat → Nat
  | 0 => 300
  | d + 1 => 3 * (Bw d + 1)
theorem bw_ge : ∀ d, 300 ≤ Bw d
  | 0 => Nat.le_refl _
  | d + 1 => by
    have := bw_ge d
    show 300 ≤ 3 * (Bw d + 1)
    omega
theorem nc_ru {h : Hall} (ho : h.Ok) : ∀ (r : Ru) (d : Nat), r.Ok h → r.deep ≤ d → Nc (Bw d) r.enc
  | .plain p l, d, hr, _ => by
    have lo : LimOk h p l := hr
    have s6 := ho.s6
    have n4 := ho.n4
    rw [Ru.enc]
    refine (nc_tup (w := 128) (n := 2) (v := 300) (fun x hx => ?_) (by simp) (by decide)).le (bw_ge d)
    simp only [List.mem_cons, List.not_mem_nil, or_false] at hx
    rcases hx with rfl | rfl
    · exact nc_str (by cases p <;> decide +kernel)
    · exact nc_encL (n := 4) (fun x hx => by have := lo.rng x hx; omega) (by rw [lo.len]; exact n4)
  | .two b r s, d, hr, hd => by
    have hrs : r.In h ∧ s.In h := hr
    have hd : 1 + max r.deep s.deep ≤ d := hd
    obtain ⟨e, rfl⟩ : ∃ e, d = e + 1 := ⟨d - 1, by omega⟩
    have h1 := nc_ru ho r e (ok_of_in hrs.1) (by omega)
    have h2 := nc_ru ho s e (ok_of_in hrs.2) (by omega)
    have hb := bw_ge e
    rw [Ru.enc]
    refine nc_tup (w := Bw e) (n := 3) (fun x hx => ?_) (by simp) (by show (Bw e + 1) * 3 ≤ 3 * (Bw e + 1); omega)
    simp only [List.mem_cons, List.not_mem_nil, or_false] at hx
    rcases hx with rfl | rfl | rfl
    · exact (nc_str (w := 300) (by cases b <;> decide +kernel)).le hb
    · exact h1
    · exact h2
  | .oust r f, d, hr, hd => by
    have hrs : r.In h ∧ 0 ≤ f ∧ f ≤ 99 := hr
    have hd : 1 + r.deep ≤ d := hd
    obtain ⟨e, rfl⟩ : ∃ e, d = e + 1 := ⟨d - 1, by omega⟩
    have h1 := nc_ru ho r e (ok_of_in hrs.1) (by omega)
    have hb := bw_ge e
    rw [Ru.enc]
    refine nc_tup (w := Bw e) (n := 3) (fun x hx => ?_) (by simp) (by show (Bw e + 1) * 3 ≤ 3 * (Bw e + 1); omega)
    simp only [List.mem_cons, List.not_mem_nil, or_false] at hx
    rcases hx with rfl | rfl | rfl
    · exact (nc_str (w := 300) (by decide +kernel)).le hb
    · exact h1
    · exact (nc_int (by omega)).le (by omega)
theorem nc_hall {h : Hall} (ho : h.Ok) : Nc 300 h.enc := by
  have s1 := ho.s1
  have s6 := ho.s6
  have n4 := ho.n4
  refine nc_tup (w := 128) (n := 2) (fun x hx => ?_) (by simp) (by decide)
  simp only [List.mem_cons, List.not_mem_nil, or_false] at hx
  rcases hx with rfl | rfl
  · exact (nc_int (by omega)).le (by decide)
  · exact nc_encL (n := 4) (fun x hx => by have := ho.fr x hx; omega) n4
theorem shown_kept {h : Hall} {r s : Ru} (ho : h.Ok) (hr : RuOk h r) (hs : RuOk h s) : Shown (.list [h.enc, encTwo r s]) := by
  have b3 : Bw 3 = 8139 := by decide
  refine shown_of (w := 40000) (shp_lst fun x hx => ?_) (nc_lst (w := 16281) (n := 2) (fun x hx => ?_) (by simp) (by decide)) (by decide) (.inr (.inr ⟨_, rfl⟩))
  · simp only [List.mem_cons, List.not_mem_nil, or_false] at hx
    rcases hx with rfl | rfl
    · exact shp_hall h (n := 57)
    · refine (shp_tup (n := 5) fun x hx => ?_).le (by decide)
      have h1 := hr.deep
      have h2 := hs.deep
      simp only [List.mem_cons, List.not_mem_nil, or_false] at hx
      rcases hx with rfl | rfl
      · exact (shp_ru r).le (by omega)
      · exact (shp_ru s).le (by omega)
  · simp only [List.mem_cons, List.not_mem_nil, or_false] at hx
    rcases hx with rfl | rfl
    · exact (nc_hall ho).le (by decide)
    · refine nc_tup (w := 8139) (n := 2) (fun x hx => ?_) (by simp) (by decide)
      simp only [List.mem_cons, List.not_mem_nil, or_false] at hx
      rcases hx with rfl | rfl
      · exact b3 ▸ nc_ru ho r 3 hr.ok hr.deep
      · exact b3 ▸ nc_ru ho s 3 hs.ok hs.deep
/-! a drawn row leads -/
theorem may_of {h : Hall} {rs : Bool} {p : Pr} {f : Int} (h1 : lowOf rs p ≤ f) (h2 : f ≤ (h.fares.length : Int) - 1) : f ∈ mayOf h rs p := by
  unfold mayOf
  exact List.mem_map.mpr ⟨(f - lowOf rs p).toNat, List.mem_range.mpr (by omega), by omega⟩
theorem row_leads {h : Hall} {r s : Ru} {rs : Bool} {row : List Int} (hrow : RowOk h rs row) : ∀ i, i ≤ row.length → LeadsH h r s rs (row.take i) (stAt h r s rs row i)
  | 0, _ => by
    rw [List.take_zero]
    exact .nil
  | i + 1, hi => by
    have hlt : i < row.length := hi
    have e : row[i]? = some row[i] := List.getElem?_eq_getElem hlt
    have ih := row_leads (r := r) (s := s) hrow i (by omega)
    have et : row.take (i + 1) = row.take i ++ [row[i]] := by rw [List.take_add_one, e]; rfl
    rw [et, stAt_next e]
    refine .snoc ih (may_of ?_ (hrow.2.1 _ (List.getElem_mem hlt)).2)
    have h0 := (hrow.2.1 _ (List.getElem_mem hlt)).1
    unfold lowOf
    cases rs with
    | false => exact h0
    | true =>
      show max 0 (stAt h r s true row i).last ≤ row[i]
      have key : (stAt h r s true row i).last ≤ row[i] := by
        cases i with
        | zero => show (-1 : Int) ≤ _; omega
        | succ j =>
          have hj : j < row.length := by omega
          have ej : row[j]? = some row[j] := List.getElem?_eq_getElem hj
          rw [stAt_next ej]
          show row[j] ≤ row[j + 1]
          have := hrow.2.2 rfl j hlt
          rw [List.getD_eq_getElem?_getD, List.getD_eq_getElem?_getD, ej, List.getElem?_eq_getElem hlt] at this
          exact this
      omega
theorem by_bound {h : Hall} {r s : Ru} {rs : Bool} {row : List Int} (ho : h.Ok) (hr : RuOk h r) (hs : RuOk h s) (hrow : RowOk h rs row) : ∀ y ∈ leadsBy h r s rs row, -2000000 ≤ y ∧ y ≤ 2000000 := fun y hy => by
  unfold leadsBy at hy
  obtain ⟨i, hi, rfl⟩ := List.mem_map.mp hy
  have hi := List.mem_range.mp hi
  have hl := hrow.1
  exact leads_bound ho hr.ok hs.ok (row_leads hrow (i + 1) hi) (by rw [List.length_take]; omega)
theorem shown_by {h : Hall} {r s : Ru} {rs : Bool} {row : List Int} (ho : h.Ok) (hr : RuOk h r) (hs : RuOk h s) (hrow : RowOk h rs row) (hl : row.length ≤ 20) : Shown (.list [encL (leadsBy h r s rs row), encL (leadsBy h r s rs row)]) := by
  have hb := by_bound ho hr hs hrow
  have hn : (leadsBy h r s rs row).length = row.length := by rw [leadsBy, List.length_map, List.length_range]
  have one : Nc 640 (encL (leadsBy h r s rs row)) := nc_encL (n := 20) (fun x hx => by have := hb x hx; omega) (by omega)
  refine shown_of (w := 641 * 2) (shp_lst (n := 59) fun x hx => ?_) (nc_lst (w := 640) (n := 2) (fun x hx => ?_) (by simp) (by decide)) (by decide) (.inr (.inr ⟨_, rfl⟩))
  · simp only [List.mem_cons, List.not_mem_nil, or_false] at hx
    rcases hx with rfl | rfl <;> exact shp_encL _
  · simp only [List.mem_cons, List.not_mem_nil, or_false] at hx
    rcases hx with rfl | rfl <;> exact one
theorem row_ok {h : Hall} {rs : Bool} {l : List Int} (hl : l.length ≤ 400) (hc : ∀ x ∈ l, 0 ≤ x ∧ x < (h.fares.length : Int)) (hu : rs = true → l.Pairwise (· ≤ ·)) : RowOk h rs l := by
  refine ⟨hl, fun x hx => by have := hc x hx; omega, fun e i hi => ?_⟩
  have h1 : i < l.length := by omega
  rw [List.getD_eq_getElem?_getD, List.getD_eq_getElem?_getD, List.getElem?_eq_getElem h1, List.getElem?_eq_getElem hi]
  exact List.pairwise_iff_getElem.mp (hu e) i (i + 1) h1 hi (by omega)
/-- the law's own dict tells that the program's going through ends -/
theorem fin_of {h : Hall} {r s : Ru} {rs : Bool} {n N : Nat} (ho : h.Ok) (hr : RuOk h r) (hs : RuOk h s) (h1 : (dst h r s rs n).2 = []) (h2 : (dst h r s rs n).1.length ≤ N) : Fin h r s rs n N := by
  have e : dst h r s rs n = lenB (bst h r s rs n) := (bst_rows n).2
  rw [e] at h1 h2
  refine ⟨ho, hr, hs, h1, ?_⟩
  unfold lenB at h2
  rw [List.length_map] at h2
  exact h2
end G33
set_option Elab.async false
set_option linter.all false
set_option maxRecDepth 100000
set_option maxHeartbeats 4000000
namespace G33
open PySem PySem.Spec PyProof.Rows L2
/-! ### rules of the law's own loop -/
section
variable {X : Cx} {M : Mm} {t n n1 n' : Nat} {ds : Ds} {Φ Ψ : Pd} {c e : Expr} {es : List Expr} {pos pos' p p1 p2 : Pos} {f : Str}
theorem em_of {k k' : Nat} {ps : List Str} {x : Str} {xs : List PyData} (t : Nat) (F : OkF X.prog X.w X.K X.mg X.base k x ps (spOf X.K)) (hr : Room k' X.A) (ha : PA X es (taD X.w X.K ds xs)) (hpx : pureAll xs = true) (hx1 : 1 ≤ xs.length) (hx2 : xs.length ≤ 1000) (hc : n + 1 ≤ 100000) (hk : k ≤ k' := by decide)
    (hN : X.N[t]? = some f := by rfl) (hv : Vis X.env.scope f := by first | exact Or.inl rfl | exact Or.inr (Or.inl rfl) | exact Or.inr (Or.inr rfl)) (hd : (f == ("__debug__" : Str)) = false := by decide) (hcd : (f == ("__classdict__" : Str)) = false := by decide)
    (hg : Gl X x := by rfl) (hdb : (x == ("__debug__" : Str)) = false := by decide) (he : starEach [.Name f p1, .List es p2] X.env = (false, eval (.Name f p1) X.env) :: starEach [.List es p2] X.env := by rfl) (he2 : starEach [.List es p2] X.env = (false, eval (.List es p2) X.env) :: starEach [] X.env := by rfl)
    (hpl : (backTo pos (starEach [.List es p2] X.env)).any (·.1) = false := by rfl) :
    PE X (.Call (.Name x p) [.Name f p1, .List es p2] [] pos) (teM X.w X.K M t ds n (n + 1) (fun d => d ∈ xs)) := by
  obtain ⟨fd, F1, b⟩ := F.ex
  refine pe_imp (pe_call F1 (hr.mono hk) hg F.glo F.kp b .nil pass0 (pa_cons (pe_var hN hv hd hcd) (pa_cons (pe_lst ha) pa_nil he2) he) hdb he hpl) fun σ H Q q => ⟨_, q.1.m0, q.1.lc, fun vs H1 e1 h1 => ⟨by rw [dpa_len h1]; exact Evl.sz_of (by omega), fun r hr0 => ?_⟩⟩
  have e2 := Evl.Ex.new (o := HO.lst vs) hr0
  have m1 := q.1.ms.up e1
  refine ⟨M, n, r, vs, xs, rfl, upd_same, h1.up e2, hpx, hx1, hx2, m1.off hr0, hc, m1.up e2, fun v H' d e m hi dv => ?_⟩
  obtain ⟨i, hi2⟩ := List.mem_iff_getElem?.mp hi
  exact q.2 v H' d (((ExM.of e1).trans (.of e2)).trans e) m hi (pureAll_at hpx hi2) dv
def ttM (w : World) (K : PySem.W.Frag) (M : Mm) (t : Nat) (ds : Ds) (n n' : Nat) : TT := fun σ H Q => LM w K M t n ds σ H ∧ ∀ b H', ExM M H H' → MSt M n' H' → Q b H'
theorem tm_eqI {k : Nat} {i : Int} {j} (he : PE X e (teM X.w X.K M t ds n n1 (IntB k))) : PT X (.Compare e [.Eq] [.Constant (.int i) j p] pos) (ttM X.w X.K M t ds n n1) :=
  pt_imp (pt_cmpR op_eq he pe_int (nomark _)) fun σ H Q q => ⟨q.1, fun v H' d e m hΦ hp dv => by
    obtain ⟨u, _, rfl⟩ := hΦ
    cases dv
    exact ⟨rfl, _, rfl, q.2 _ H' e m⟩⟩
theorem hm_if2 {P N P' : L2.St → Hp → Prop} {R : V → Hp → Prop} {as bs : List Stmt} (hc : PT X c (ttM X.w X.K M t ds n n1)) (hP : ∀ σ H, P σ H → LM X.w X.K M t n ds σ H) (h : ∀ σ H H', P σ H → ExM M H H' → MSt M n1 H' → P' σ H') (ha : PSs X as (tH P' N R)) (hb : PSs X bs (tH P' N R)) : PS X (.If c as bs pos) (tH P N R) :=
  ps_imp (ps_if hc ha hb) fun D σ H q => ⟨hP σ H q.1, fun b H' e m => by
    cases b with
    | false => exact iteF ⟨h σ H H' q.1 e m, q.2⟩
    | true => exact iteT ⟨h σ H H' q.1 e m, q.2⟩⟩
/-- x is not None, x a dict -/
theorem pt_notNH {kvs : List (Pr × PyData)} {j p'} (ha : PE X e (teH X.w X.K ds (dictD kvs))) : PT X (.Compare e [.IsNot] [.Constant .none j p'] pos) (ttD X.w X.K ds true) :=
  pt_imp (pt_cmpR op_notN ha pe_non (nomark _)) fun σ H Q q => ⟨q.1, fun v H' e hd => by
    obtain ⟨c, rfl, _⟩ := hd.tab
    exact ⟨rfl, _, rfl, q.2 H' e⟩⟩
end
theorem bare_of (r : Ru) : ∃ (wd : Str) (rest : List PyData), r.enc = .tuple (.str wd :: rest) ∧ (inD (.str wd) [.str "apart", .str "nested", .str "kept"] = true → ∃ p l, r = .plain p l) := by
  cases r with
  | plain p l => exact ⟨p.str, [encL l], rfl, fun _ => ⟨p, l, rfl⟩⟩
  | two b r s => exact ⟨if b then "all" else "any", [r.enc, s.enc], rfl, fun h => by cases b <;> exact absurd h (by decide +kernel)⟩
  | oust r f => exact ⟨"oust", [r.enc, .int f], rfl, fun h => absurd h (by decide +kernel)⟩
theorem ru_self {h : Hall} {p : Pw} {l : List Int} (x : RuOk h (.plain p l)) : RuOk h (.two false (.plain p l) (.plain p l)) := ⟨⟨x.ok, x.ok⟩, by show 1 + max 0 0 ≤ 3; decide, by show 1 + 1 + 1 ≤ 7; decide⟩
abbrev N_law : List Str := ["_law_script", "_law_m", "_law_turn", "_law_sort", "_law_two", "_law_is_bare", "_law_kept_so", "_law_depths_here", "_law_row", "_law_told_here", "_law_all_so", "_law_kept", "_law_yard_here", "_law_k"]
theorem sc_law : FnScope N_law ["_law_script"] (defScope (top 97)) := ⟨rfl, rfl, rfl, by decide +kernel, rfl, by decide +kernel, by decide +kernel⟩
def lds (o3 o4 o5 o6 o7 o8 o9 o12 : Option PyData) : Ds := [none, none, none, o3, o4, o5, o6, o7, o8, o9, none, none, o12, none]
abbrev ld0 : Ds := lds none none none none none none none none
structure LQ (w : World) (K : PySem.W.Frag) (M : Mm) (H1 : Hp) (a : Addr) (n : Nat) (ds : Ds) (σ : L2.St) (H : Hp) : Prop where
  ex : ExM M H1 H
  s0 : σ[0]? = some (some (.ref a))
  lm : LM w K M 1 n ds σ H
section
variable {w : World} {K : PySem.W.Frag} {M : Mm} {H1 H H' : Hp} {a : Addr} {n n' : Nat} {ds ds' : Ds} {σ : L2.St}
theorem LQ.up (x : LQ w K M H1 a n ds σ H) (e : Ex H H') : LQ w K M H1 a n ds σ H' := ⟨x.ex.trans (.of e), x.s0, x.lm.up e⟩
theorem LQ.go (x : LQ w K M H1 a n ds σ H) (p : PuA ds) (e : ExM M H H') (m : MSt M n' H') : LQ w K M H1 a n' ds σ H' := ⟨x.ex.trans e, x.s0, x.lm.go p e m⟩
theorem LQ.le (x : LQ w K M H1 a n ds σ H) (h : n ≤ n') : LQ w K M H1 a n' ds σ H := ⟨x.ex, x.s0, x.lm.le h⟩
theorem LQ.set {i : Nat} {v : V} {d : PyData} (x : LQ w K M H1 a n ds σ H) (h : 1 < i) (dv : Dp K H v d) : LQ w K M H1 a n (ds.set i (some d)) (σ.set i (some v)) H := ⟨x.ex, set_ne (by omega) x.s0, x.lm.set (by omega) dv⟩
theorem LQ.un {i : Nat} {o : Option V} (x : LQ w K M H1 a n ds σ H) (h : 1 < i) : LQ w K M H1 a n (ds.set i none) (σ.set i o) H := ⟨x.ex, by rw [List.getElem?_set_ne (by omega)]; exact x.s0, by rw [List.getElem?_set_ne (by omega)]; exact x.lm.m0, x.lm.ms, x.lm.lc.un i o⟩
theorem LQ.sub (x : LQ w K M H1 a n ds σ H) (s : SubD ds' ds) : LQ w K M H1 a n ds' σ H := ⟨x.ex, x.s0, x.lm.sub s⟩
end
theorem lds_pu {o3 o4 o5 o6 o7 o8 o9 o12 : Option PyData} (h3 : ∀ d, o3 = some d → pure d = true) (h4 : ∀ d, o4 = some d → pure d = true) (h5 : ∀ d, o5 = some d → pure d = true) (h6 : ∀ d, o6 = some d → pure d = true) (h7 : ∀ d, o7 = some d → pure d = true) (h8 : ∀ d, o8 = some d → pure d = true) (h9 : ∀ d, o9 = some d → pure d = true) (h12 : ∀ d, o12 = some d → pure d = true) : PuA (lds o3 o4 o5 o6 o7 o8 o9 o12) := by
  have one : ∀ {o : Option PyData} {ds : Ds}, (∀ d, o = some d → pure d = true) → PuA ds → PuA (o :: ds) := fun {o ds} ho hd => by
    cases o with
    | none => exact .n hd
    | some d => exact .p (ho d rfl) hd
  exact .n (.n (.n (one h3 (one h4 (one h5 (one h6 (one h7 (one h8 (one h9 (.n (.n (one h12 (.n .nil)))))))))))))
theorem no_pu : ∀ d, (none : Option PyData) = some d → pure d = true := fun d e => nomatch e
theorem so_pu {x : PyData} (h : pure x = true) : ∀ d, some x = some d → pure d = true := fun d e => by cases e; exact h
/-- a row as a turn draws it -/
structure RowD (h : Hall) (l : List Int) : Prop where
  few : l.length ≤ 19
  rng : ∀ x ∈ l, 0 ≤ x ∧ x < (h.fares.length : Int)
def sortIf (rs : Bool) (l : List Int) : List Int := if rs then l.mergeSort fun a b => decide (a ≤ b) else l
theorem sortIf_perm (rs : Bool) (l : List Int) : (sortIf rs l).Perm l := by
  unfold sortIf
  cases rs with
  | true => exact sort_perm l
  | false => exact .refl l
theorem row_sorted {h : Hall} {rs : Bool} {l : List Int} (x : RowD h l) : RowOk h rs (sortIf rs l) := by
  have hp := sortIf_perm rs l
  refine row_ok (by rw [hp.length_eq]; exact Nat.le_trans x.few (by decide)) (fun y hy => x.rng y (hp.mem_iff.mp hy)) fun e => ?_
  subst e
  exact sort_up l
end G33
set_option Elab.async false
set_option linter.all false
set_option maxRecDepth 100000
set_option maxHeartbeats 4000000
namespace G33
open PySem PySem.Spec PyProof.Rows L2
/-! ### one turn of the law -/
def sFor : Stmt := (defBody (top 97)).getD 1 (.Pass ⟨0, 0, 0, 0⟩)
def turnBody : List Stmt := match sFor with
  | .For _ _ b _ _ => b
  | _ => []
theorem lc_know {w : World} {K : PySem.W.Frag} {H : Hp} {σ : L2.St} {ds ds' : Ds} {i : Nat} {v : V} {d : PyData} (L : Lc w K H σ ds) (e : σ[i]? = some (some v)) (h : HoldsD w K H v d) (q : ds.set i (some d) = ds') : Lc w K H σ ds' := by
  have es : σ.set i (some v) = σ := List.ext_getElem? fun j => by
    by_cases hij : i = j
    · subst hij
      rw [List.getElem?_set_self (List.getElem?_eq_some_iff.mp e).1, e]
    · rw [List.getElem?_set_ne hij]
  have := L.setH i h
  rw [es, q] at this
  exact this
abbrev sN (d : PyData) : Option PyData := some d
section
variable {P : Program} {w : World} {K : PySem.W.Frag} {mg : Str → Option Value} {base : Heap}
/-- what stands behind the drawing of hall, kind and rules -/
structure TQ (w : World) (K : PySem.W.Frag) (M : Mm) (H1 : Hp) (a : Addr) (n : Nat) (h : Hall) (r s : Ru) (rs : Bool) (σ : L2.St) (H : Hp) : Prop where
  ro : RuOk h r
  so : RuOk h s
  q : LQ w K M H1 a n (lds (some (.str (kindS rs))) (some (encTwo r s)) none none none none none (some h.enc)) σ H
theorem pu_tq (h : Hall) (r s : Ru) (rs : Bool) : PuA (lds (some (.str (kindS rs))) (some (encTwo r s)) none none none none none (some h.enc)) := lds_pu (so_pu (pure_str _)) (so_pu (pure_two r s)) no_pu no_pu no_pu no_pu no_pu (so_pu (pure_hall h))
theorem atI_hd (x : PyData) (l : List PyData) : atI (x :: l) 0 = some x := (atI_nat (x :: l) 0 (by simp)).trans rfl
theorem law_turn (T : Fx K mg) {A : Around} {outer : List Env} {sh : Shared} {Hc : Hp} {E : XK} {cdv : Value} (hgd : A.guards = some []) (hr : Room 11 (A.deeper (envOfC "law" (defScope (top 97)) sh.heap.objs.size (He.ga K "law") cdv)))
    {M : Mm} {H1 : Hp} {a : Addr} {n : Nat} {R : V → Hp → Prop} (hc : n + 110 ≤ 100000) :
    PSs (cxOf CX0 P w K mg base N_law "law" (defScope (top 97)) (He.ga K "law") cdv A outer sh Hc E).nox turnBody (tH (LQ w K M H1 a n ld0) (LQ w K M H1 a (n + 110) ld0) R) := by
  have pu0 : PuA ld0 := lds_pu no_pu no_pu no_pu no_pu no_pu no_pu no_pu no_pu
  -- the hall, the kind
  refine hs_cons (M := fun σ H => ∃ (h : Hall) (rs : Bool), h.Ok ∧ h.fares.length ≤ 3 ∧ LQ w K M H1 a (n + 21) (lds (some (.str (kindS rs))) none none none none none none (some h.enc)) σ H)
    (ps_imp (ps_asg (em_tup (M := M) (t := 1) (n := n) (n' := n + 20 + 1) (ds := ld0) (am_cons pu0 (em_call 1 (ok_law_yard T) hr ⟨rfl, rfl⟩ (ad_cons pd_int (ad_cons pd_int ad_nil)) (by omega)) (am_cons pu0 (em_of 1 (ok_law_of T) hr (ad_cons pd_str (ad_cons pd_str ad_nil)) rfl (by decide) (by decide) (by omega)) am_nil)) (by exact lle rfl))
      (pg_tup rfl (pgs_cons (pg_name (i := 12) sc_law.nd rfl (.inr rfl)) (pgs_cons (pg_name (i := 3) sc_law.nd rfl (.inl rfl)) pgs_nil))) rfl rfl) fun D σ H q => ?_) ?_
  · obtain ⟨q0, hN, _⟩ := q
    refine ⟨q0.lm, fun v H' d e m hΦ hp dv => ?_⟩
    obtain ⟨dl, rfl, f⟩ := hΦ
    match dl, f with
    | [x1, x2], ⟨⟨h, ho, h3, h4, e1⟩, hk, _⟩ =>
      subst e1
      obtain ⟨rs, rfl⟩ : ∃ rs : Bool, x2 = .str (kindS rs) := by
        simp only [List.mem_cons, List.not_mem_nil, or_false] at hk
        rcases hk with rfl | rfl
        · exact ⟨false, rfl⟩
        · exact ⟨true, rfl⟩
      cases dv with
      | tup hs hd =>
        cases hd with
        | cons d1 hd =>
          cases hd with
          | cons d2 hd =>
            cases hd
            have q1 := ((q0.go pu0 e m).set (i := 12) (by decide) d1).set (i := 3) (by decide) d2
            exact ⟨_, _, rfl, hs, rfl, _, _, rfl, _, _, rfl, rfl, hN _ _ ⟨h, rs, ho, h3, q1⟩⟩
  refine hs_ex fun h => hs_ex fun rs => hs_pre fun σ1 H2 z1 => ?_
  obtain ⟨ho, h3, q1⟩ := z1
  have n1 := ho.n1
  -- the rules
  have pu1 : PuA (lds (some (.str (kindS rs))) none none none none none none (some h.enc)) := lds_pu (so_pu (pure_str _)) no_pu no_pu no_pu no_pu no_pu no_pu (so_pu (pure_hall h))
  refine hs_cons (M := fun σ H => ∃ r s : Ru, TQ w K M H1 a (n + 81) h r s rs σ H)
    (hm_asg (M := M) (t := 1) (n := n + 21) (n1 := n + 21 + 30 + 30) (ds := lds (some (.str (kindS rs))) none none none none none none (some h.enc)) 4 sc_law.nd (em_tup (am_cons pu1 (em_call 1 (ok_law_book T) hr ⟨h, ho, h3, rfl, rfl⟩ (ad_cons (pd_name 12) ad_nil) (by omega)) (am_cons pu1 (em_call 1 (ok_law_book T) hr ⟨h, ho, h3, rfl, rfl⟩ (ad_cons (pd_name 12) ad_nil) (by omega)) am_nil)) (by exact lle rfl))
      (fun σ H q => by obtain ⟨rfl, rfl⟩ := q; exact q1.lm) (fun σ H v H' d q e m hΦ hp dv => ?_)) ?_
  · obtain ⟨rfl, rfl⟩ := q
    obtain ⟨dl, rfl, f⟩ := hΦ
    match dl, f with
    | [x1, x2], ⟨⟨r, hro, e1⟩, ⟨s, hso, e2⟩, _⟩ =>
      subst e1 e2
      exact ⟨r, s, hro, hso, (q1.go pu1 e m).set (i := 4) (by decide) dv⟩
  refine hs_ex fun r => hs_ex fun s => hs_pre fun σ2 H3 z2 => ?_
  -- the rule beside itself
  refine hs_cons (M := fun σ H => ∃ s' : Ru, TQ w K M H1 a (n + 82) h r s' rs σ H)
    (hm_if2 (M := M) (t := 1) (n := n + 81) (n1 := n + 81 + 1) (ds := lds (some (.str (kindS rs))) (some (encTwo r s)) none none none none none (some h.enc)) (P' := TQ w K M H1 a (n + 82) h r s rs) (tm_eqI (em_call 1 (ok_law_draw T) hr ⟨3, by decide, by decide, rfl, rfl⟩ (ad_cons pd_int ad_nil) (by omega))) (fun σ H q => by obtain ⟨rfl, rfl⟩ := q; exact z2.q.lm)
      (fun σ H H' q e m => by obtain ⟨rfl, rfl⟩ := q; exact ⟨z2.ro, z2.so, z2.q.go (pu_tq h r s rs) e m⟩) ?_ (hs_conseq hs_nil (fun _ _ q => q) fun σ H q => ⟨s, q⟩)) ?_
  · obtain ⟨wd, rest, er, hbare⟩ := bare_of r
    refine hs_cons (M := fun σ H => LQ w K M H1 a (n + 82) (lds (some (.str (kindS rs))) (some (encTwo r s)) (some (.bool (inD (.str wd) [.str "apart", .str "nested", .str "kept"]))) none none none none (some h.enc)) σ H) (hs_asg (ds := lds (some (.str (kindS rs))) (some (encTwo r s)) none none none none none (some h.enc)) 5 sc_law.nd
      (pd_inT (pd_ix (d := .str wd) (pd_eq (pd_ix (d := r.enc) (pd_name 4) pd_int rfl) er) pd_int (atI_hd _ _)) (pd_tup (ad_cons pd_str (ad_cons pd_str (ad_cons pd_str ad_nil))) (by exact lle rfl))) (fun σ H q => q.q.lm.lc) (fun σ H v H' q e dv => (q.q.up e).set (i := 5) (by decide) dv)) ?_
    refine hs_one (hs_asg (ds := lds (some (.str (kindS rs))) (some (encTwo r s)) (some (.bool (inD (.str wd) [.str "apart", .str "nested", .str "kept"]))) none none none none (some h.enc)) (d := encTwo r (if inD (.str wd) [.str "apart", .str "nested", .str "kept"] then .two false r r else r)) 4 sc_law.nd
      (pd_tup (ad_cons (pd_ix (d := r.enc) (pd_name 4) pd_int rfl) (ad_cons (pd_if (pt_b (pd_name 5)) (fun hb => pd_eq (pd_tup (ad_cons pd_str (ad_cons (pd_ix (d := r.enc) (pd_name 4) pd_int rfl) (ad_cons (pd_ix (d := r.enc) (pd_name 4) pd_int rfl) ad_nil))) (by exact lle rfl)) (by rw [if_pos hb]; rfl)) (fun hb => pd_eq (pd_ix (d := r.enc) (pd_name 4) pd_int rfl) (by rw [if_neg (by rw [hb]; exact Bool.false_ne_true)]))) ad_nil)) (by exact lle rfl)) (fun σ H q => q.lm.lc) (fun σ H v H' q e dv => ⟨if inD (.str wd) [.str "apart", .str "nested", .str "kept"] then .two false r r else r, z2.ro, ?_, ?_⟩))
    · by_cases hb : inD (.str wd) [.str "apart", .str "nested", .str "kept"] = true
      · rw [if_pos hb]
        obtain ⟨p, l, rfl⟩ := hbare hb
        exact ru_self z2.ro
      · rw [if_neg hb]
        exact z2.ro
    · exact ((q.up e).set (i := 4) (by decide) dv).sub (.same (.same (.same (.same (.same (.skip (.same (.same (.same (.same (.same (.same (.same (.same .nil))))))))))))))
  clear z2
  refine hs_ex fun s => hs_pre fun σ3 H4 z3 => ?_
  have hro := z3.ro
  have hso := z3.so
  have q3 := z3.q
  clear z3
  -- what is shown, and the law's own dict
  have shk := shown_kept (r := r) (s := s) ho hro hso
  refine hs_cons (M := fun σ H => LQ w K M H1 a (n + 82) (lds (some (.str (kindS rs))) (some (encTwo r s)) none (some (.str (PyData.shown (.list [h.enc, encTwo r s])))) none none none (some h.enc)) σ H ∧ ∃ u, σ[7]? = some (some u) ∧ (u = .non ∨ ∃ k, (dst h r s rs k).2 = [] ∧ (dst h r s rs k).1.length ≤ 250 ∧ HoldsD w K H u (dictD (KvI (dst h r s rs k).1))))
    (ps_imp (ps_par (i := 6) (j := 7) rfl sc_law.nd rfl rfl (by decide) rfl rfl (pa_cons (pd_repr (ds := lds (some (.str (kindS rs))) (some (encTwo r s)) none none none none none (some h.enc)) hgd hr.units T.f_repr (pd_lst (ad_cons (pd_name 12) (ad_cons (pd_name 4) ad_nil)) (by exact lle rfl)) shk) (pa_cons (po_call (ds := lds (some (.str (kindS rs))) (some (encTwo r s)) none none none none none (some h.enc)) (ok_law_depths T) hr ⟨h, r, s, rs, 250, ho, hro, hso, by decide, by decide, rfl, rfl⟩ (ah_d (ad_cons (pd_name 12) (ad_cons (pd_name 4) (ad_cons (pd_name 3) (ad_cons pd_int ad_nil)))))) pa_nil)) rfl rfl) fun D σ H q => ?_) ?_
  · obtain ⟨⟨rfl, rfl⟩, hN, _⟩ := q
    refine ⟨q3.lm.lc, fun v1 H5 e1 d1 => ⟨(q3.up e1).lm.lc, fun H6 v2 H7 e2 o => ⟨v1, v2, rfl, hN _ _ ?_⟩⟩⟩
    obtain ⟨e3, o⟩ := o
    have q5 := (((q3.up e1).up e2).up e3).set (i := 6) (by decide) (d1.up (e2.trans e3))
    refine ⟨?_, v2, set_eq (by rw [List.length_set, q3.lm.lc.1]; exact lle rfl), o⟩
    exact q5.un (i := 7) (o := some v2) (by decide)
  refine hs_pre fun σ4 H5 z4 => ?_
  obtain ⟨q4, u, e7, hu⟩ := z4
  refine hs_cons (M := LQ w K M H1 a (n + 82) (lds (some (.str (kindS rs))) (some (encTwo r s)) none (some (.str (PyData.shown (.list [h.enc, encTwo r s])))) none none none (some h.enc))) ?_ ?_
  · rcases hu with rfl | ⟨k, hk1, hk2, hd⟩
    · -- many pair states: nothing is asked
      have L7 : Lc w K H5 σ4 (lds (some (.str (kindS rs))) (some (encTwo r s)) none (some (.str (PyData.shown (.list [h.enc, encTwo r s])))) (some .none) none none (some h.enc)) := lc_know q4.lm.lc e7 (.inl .non) rfl
      exact hs_if (k := false) (ds := lds (some (.str (kindS rs))) (some (encTwo r s)) none (some (.str (PyData.shown (.list [h.enc, encTwo r s])))) (some .none) none none (some h.enc)) (P := fun σ H => σ = σ4 ∧ Ex H5 H) (pt_notN (pd_name 7)) (fun σ H q => by obtain ⟨rfl, e⟩ := q; exact L7.up e) (fun σ H H' q e => ⟨q.1, q.2.trans e⟩) (fun hb => nomatch hb) (fun _ => hs_conseq hs_nil (fun σ H q => q) fun σ H q => by obtain ⟨rfl, e⟩ := q; exact q4.up e) |> fun z => hp_conseq z (fun σ H q => by obtain ⟨rfl, rfl⟩ := q; exact ⟨rfl, Evl.Ex.refl _⟩) fun σ H q => q
    · have fn := fin_of ho hro hso hk1 hk2
      obtain ⟨lo, hi, rhi, rlo, hright⟩ := fn.right'
      obtain ⟨hi2, rhi2, hpaper⟩ := fn.paper'
      have L7 : Lc w K H5 σ4 (lds (some (.str (kindS rs))) (some (encTwo r s)) none (some (.str (PyData.shown (.list [h.enc, encTwo r s])))) (some (dictD (KvI (dst h r s rs k).1))) none none (some h.enc)) := lc_know q4.lm.lc e7 hd rfl
      refine hp_conseq (P := fun σ H => σ = σ4 ∧ Ex H5 H) (N := fun σ H => σ = σ4 ∧ Ex H5 H) (hs_if (k := true) (ds := lds (some (.str (kindS rs))) (some (encTwo r s)) none (some (.str (PyData.shown (.list [h.enc, encTwo r s])))) (some (dictD (KvI (dst h r s rs k).1))) none none (some h.enc)) (pt_notNH (ph_name 7)) (fun σ H q => by obtain ⟨rfl, e⟩ := q; exact L7.up e) (fun σ H H' q e => ⟨q.1, q.2.trans e⟩) (fun _ => ?_) (fun hb => nomatch hb)) (fun σ H q => by obtain ⟨rfl, rfl⟩ := q; exact ⟨rfl, Evl.Ex.refl _⟩) fun σ H q => by obtain ⟨rfl, e⟩ := q; exact q4.up e
      refine hs_one (hs_if (k := false) (ds := lds (some (.str (kindS rs))) (some (encTwo r s)) none (some (.str (PyData.shown (.list [h.enc, encTwo r s])))) (some (dictD (KvI (dst h r s rs k).1))) none none (some h.enc)) (pt_eq (w_t (wt_or (k := false) (k' := false) (pt_eq (pt_no (pt_b (pd_o (po_callG (ok_law_right T) hgd hr ⟨h, r, s, rs, (dst h r s rs k).1, bst h r s rs k, bst h s r rs k, lo, hi, rhi, rlo, hright, rfl, rfl⟩ (ah_cons (ph_name 12) (ah_cons (ph_name 4) (ah_cons (ph_name 3) (ah_cons (ph_name 7) ah_nil)))))))) rfl)
        (fun _ => wt_or1 (pt_eq (pt_no (pt_b (pd_o (po_callG (ok_law_paper_right T) hgd hr ⟨h, r, s, rs, (dst h r s rs k).1, bst h r s rs k, hi2, rhi2, hpaper, rfl, rfl⟩ (ah_cons (ph_name 12) (ah_cons (ph_name 4) (ah_cons (ph_name 3) (ah_cons (ph_name 7) ah_nil)))))))) rfl)))) rfl) (fun σ H q => by obtain ⟨rfl, e⟩ := q; exact L7.up e) (fun σ H H' q e => ⟨q.1, q.2.trans e⟩) (fun hb => nomatch hb) (fun _ => hs_nil))
  clear hu e7 u
  -- a drawn row
  have pu4 : PuA (lds (some (.str (kindS rs))) (some (encTwo r s)) none (some (.str (PyData.shown (.list [h.enc, encTwo r s])))) none none none (some h.enc)) := lds_pu (so_pu (pure_str _)) (so_pu (pure_two r s)) no_pu (so_pu (pure_str _)) no_pu no_pu no_pu (so_pu (pure_hall h))
  refine hs_cons (M := fun σ H => ∃ l, RowD h l ∧ LQ w K M H1 a (n + 110) (lds (some (.str (kindS rs))) (some (encTwo r s)) none (some (.str (PyData.shown (.list [h.enc, encTwo r s])))) none (some (.list (l.map .int))) none (some h.enc)) σ H)
    (ps_imp (asg_lcM (M := M) (t := 1) (n := n + 82) (n1 := n + 82 + 1) (c := 1) (B := 19) (A := fun d => pure d = true) (Φ := IntB h.fares.length) (ds := lds (some (.str (kindS rs))) (some (encTwo r s)) none (some (.str (PyData.shown (.list [h.enc, encTwo r s])))) none none none (some h.enc)) (Ξ := fun xs => ∃ k : Nat, k ≤ 19 ∧ xs = (List.range k).map fun i => .int (i : Nat)) 8 13 (by decide) pu4 (by decide) (fun xs e => ?_) rfl sc_law.nd
      (wm_range 19 T.f_range pu4 (em_call 1 (ok_law_draw T) hr ⟨20, by decide, by decide, rfl, rfl⟩ (ad_cons pd_int ad_nil) (by omega)) (fun d hd => ?_) (by decide)) (blkOk_by (N := N_law) (sc := defScope (top 97)) (by decide +kernel)) (fun _ _ _ _ _ => pg_name sc_law.nd rfl (.inl rfl)) (fun i a hi ha _ _ _ _ _ => ?_)) fun D σ H q => ?_) ?_
  · obtain ⟨k, hk, rfl⟩ := e
    refine ⟨by rw [List.length_map, List.length_range]; exact hk, fun x hx => ?_⟩
    obtain ⟨i, _, rfl⟩ := List.mem_map.mp hx
    exact pure_int _
  · obtain ⟨v, hv, rfl⟩ := hd
    exact ⟨v, by omega, rfl⟩
  · exact em_le (em_call 1 (ok_law_draw T) hr ⟨h.fares.length, n1, by omega, rfl, rfl⟩ (ad_cons (pd_eq (pd_len T.f_len (pd_ix (pd_name 12) pd_int rfl)) (by rw [List.length_map])) ad_nil) (by omega)) (by omega)
  · obtain ⟨q5, hN, _⟩ := q
    refine ⟨q5.lm, fun p vs H' dl e m hr0 hr1 hd hΨ hpd => hN _ _ ?_⟩
    obtain ⟨hB, xs, ⟨k, hk, rfl⟩, hlen⟩ := hΨ
    obtain ⟨l, rfl, hl⟩ := intsB hB
    rw [List.length_map, List.length_map, List.length_range] at hlen
    refine ⟨l, ⟨by omega, hl⟩, ?_⟩
    exact ((q5.go pu4 e m).set (i := 8) (by decide) (dpa_li hr1 hd)).le (by omega)
  refine hs_ex fun l => hs_pre fun σ5 H6 z5 => ?_
  obtain ⟨hl, q5⟩ := z5
  have hrow := row_sorted (rs := rs) hl
  have hlen : (sortIf rs l).length ≤ 19 := by rw [(sortIf_perm rs l).length_eq]; exact hl.few
  have h19 := hl.few
  -- sorted, where calls rise
  refine hs_cons (M := LQ w K M H1 a (n + 110) (lds (some (.str (kindS rs))) (some (encTwo r s)) none (some (.str (PyData.shown (.list [h.enc, encTwo r s])))) none (some (.list ((sortIf rs l).map .int))) none (some h.enc))) (hs_asg (ds := lds (some (.str (kindS rs))) (some (encTwo r s)) none (some (.str (PyData.shown (.list [h.enc, encTwo r s])))) none (some (.list (l.map .int))) none (some h.enc)) (d := .list ((sortIf rs l).map .int)) 8 sc_law.nd
    (pd_if (k := rs) (pt_eq (pt_eqS (pd_name 3) pd_str) (kind_eqv rs)) (fun hb => pd_oN (po_sortedI (t := false) (ns := l) (ms := sortIf rs l) T.f_sorted (by omega) (sortIf_perm rs l) (by subst hb; exact sort_up l) (pd_name 8))) (fun hb => pd_eq (pd_name 8) (by subst hb; rfl))) (fun σ H q => by obtain ⟨rfl, rfl⟩ := q; exact q5.lm.lc) (fun σ H v H' q e dv => by obtain ⟨rfl, rfl⟩ := q; exact (q5.up e).set (i := 8) (by decide) dv)) ?_
  generalize sortIf rs l = row at hrow hlen
  clear hl q5 h19
  have hcalls : Calls h row := hrow.2.1
  have shb := shown_by (r := r) (s := s) ho hro hso hrow (by omega)
  refine hs_cons (M := LQ w K M H1 a (n + 110) (lds (some (.str (kindS rs))) (some (encTwo r s)) none (some (.str (PyData.shown (.list [h.enc, encTwo r s])))) none (some (.list (row.map .int))) (some (.list [encL (leadsBy h r s rs row), encL (leadsBy h r s rs row)])) (some h.enc))) (hs_asg (ds := lds (some (.str (kindS rs))) (some (encTwo r s)) none (some (.str (PyData.shown (.list [h.enc, encTwo r s])))) none (some (.list (row.map .int))) none (some h.enc)) (d := .list [encL (leadsBy h r s rs row), encL (leadsBy h r s rs row)]) 9 sc_law.nd
    (pd_lst (ad_cons (pd_fn (ok_lead_behind T) hr ⟨h, r, s, rs, row, false, ho, hro, hso, hrow, rfl, rfl⟩ (ad_cons (pd_name 12) (ad_cons (pd_ix (d := r.enc) (pd_name 4) pd_int rfl) (ad_cons (pd_ix (d := s.enc) (pd_name 4) pd_int rfl) (ad_cons (pd_name 3) (ad_cons (pd_name 8) ad_nil)))))) (ad_cons (pd_fn (ok_lead_behind T) hr ⟨h, r, s, rs, row, true, ho, hro, hso, hrow, rfl, rfl⟩ (ad_cons (pd_name 12) (ad_cons (pd_ix (d := r.enc) (pd_name 4) pd_int rfl) (ad_cons (pd_ix (d := s.enc) (pd_name 4) pd_int rfl) (ad_cons (pd_name 3) (ad_cons (pd_tuple T.f_tuple (pd_name 8) (.inl rfl)) ad_nil)))))) ad_nil)) (by exact lle rfl)) (fun σ H q => q.lm.lc) (fun σ H v H' q e dv => (q.up e).set (i := 9) (by decide) dv)) ?_
  refine hs_one (hp_conseq (P := LQ w K M H1 a (n + 110) (lds (some (.str (kindS rs))) (some (encTwo r s)) none (some (.str (PyData.shown (.list [h.enc, encTwo r s])))) none (some (.list (row.map .int))) (some (.list [encL (leadsBy h r s rs row), encL (leadsBy h r s rs row)])) (some h.enc))) (N := LQ w K M H1 a (n + 110) (lds (some (.str (kindS rs))) (some (encTwo r s)) none (some (.str (PyData.shown (.list [h.enc, encTwo r s])))) none (some (.list (row.map .int))) (some (.list [encL (leadsBy h r s rs row), encL (leadsBy h r s rs row)])) (some h.enc)))
    (hs_if (k := false) (ds := lds (some (.str (kindS rs))) (some (encTwo r s)) none (some (.str (PyData.shown (.list [h.enc, encTwo r s])))) none (some (.list (row.map .int))) (some (.list [encL (leadsBy h r s rs row), encL (leadsBy h r s rs row)])) (some h.enc))
      (pt_eq (w_t (wt_or (k := false) (k' := false) (pt_eq (pt_no (pt_b (pd_o (po_callG (ok_law_like T) hgd hr ⟨.list [encL (leadsBy h r s rs row), encL (leadsBy h r s rs row)], shb, rfl, rfl⟩ (ah_d (ad_cons (pd_name 9) (ad_cons (pd_eq (lk_d (lk_rep (k := 2) (lk_lst (ad_cons (pd_tuple T.f_tuple (pd_oN (po_call (ok_law_leads_by T) hr ⟨h, r, s, rs, row, false, ho, hro, hso, hcalls, by omega, rfl, rfl⟩ (ah_d (ad_cons (pd_name 12) (ad_cons (pd_name 4) (ad_cons (pd_name 3) (ad_cons (pd_name 8) ad_nil))))))) (.inl rfl)) ad_nil) (by exact lle rfl)) pd_int (by decide) (by decide) (by exact lle rfl))) rfl) ad_nil))))))) rfl)
        (fun _ => wt_or1 (pt_eq (pt_neS (pd_repr hgd hr.units T.f_repr (pd_lst (ad_cons (pd_name 12) (ad_cons (pd_name 4) ad_nil)) (by exact lle rfl)) shk) (pd_name 6)) (by show (!PyData.eqv (.str (PyData.shown (.list [h.enc, encTwo r s]))) (.str (PyData.shown (.list [h.enc, encTwo r s])))) = false; rw [eqv_str, decide_eq_true rfl]; rfl))))) rfl) (fun σ H q => q.lm.lc) (fun σ H H' q e => q.up e) (fun hb => nomatch hb) (fun _ => hs_nil)) (fun σ H q => q) fun σ H q => ?_)
  exact q.sub (.same (.same (.same (.skip (.skip (.same (.skip (.same (.skip (.skip (.same (.same (.skip (.same .nil))))))))))))))
end
end G33
set_option Elab.async false
set_option linter.all false
set_option maxRecDepth 100000
set_option maxHeartbeats 4000000
namespace G33
open PySem PySem.Spec PyProof.Rows L2
/-! ### the law's closed end -/
theorem zD : extrB true (-15) (leads h2 (bst h2 rKept rK false 9).1) = true ∧ extrB false 10 (leads h2 (bst h2 rKept rK false 9).1) = true := by decide +kernel
def endBody : List Stmt := (defBody (top 97)).drop 4
abbrev le0 : Ds := [none, none, none, none, none, none, none, none, none, none, none, none, none, none]
section
variable {P : Program} {w : World} {K : PySem.W.Frag} {mg : Str → Option Value} {base : Heap}
theorem law_end (T : Fx K mg) {A : Around} {outer : List Env} {sh : Shared} {Hc : Hp} {E : XK} {cdv : Value} (hgd : A.guards = some []) (hr : Room 11 (A.deeper (envOfC "law" (defScope (top 97)) sh.heap.objs.size (He.ga K "law") cdv))) :
    PSs (cxOf CX0 P w K mg base N_law "law" (defScope (top 97)) (He.ga K "law") cdv A outer sh Hc E).nox endBody (tR w K le0 (.bool true)) := by
  have gA := finA.go (by decide)
  have gB := finB.go (by decide)
  have gC := finC.go (by decide)
  have gD := finD.go (by decide)
  have gE := finE.go (by decide)
  have gF := finF.go (by decide)
  obtain ⟨gl, e4, e4'⟩ := z4
  obtain ⟨lo7, hi7, e7, e7', p7⟩ := z7
  obtain ⟨lo9, hi9, e9, e9', p9⟩ := z9
  refine
    (sr_un3 (d1 := h2.enc) (d2 := rAll.enc) (d3 := rKept.enc) 12 10 11 rfl sc_law.nd (pd_eq (pd_tup (ad_cons (pd_tup (ad_cons pd_int (ad_cons (pd_tup (ad_cons pd_int (ad_cons pd_int ad_nil)) (by exact lle rfl)) ad_nil)) (by exact lle rfl)) (ad_cons (pd_tup (ad_cons pd_str (ad_cons (pd_tup (ad_cons pd_int (ad_cons pd_int ad_nil)) (by exact lle rfl)) ad_nil)) (by exact lle rfl)) (ad_cons (pd_tup (ad_cons pd_str (ad_cons (pd_tup (ad_cons pd_int (ad_cons pd_int ad_nil)) (by exact lle rfl)) ad_nil)) (by exact lle rfl)) ad_nil))) (by exact lle rfl)) rfl)
    (sl_start 9 sc_law.nd (lk_lst (ad_cons (pd_fn (d := .tuple [.int (-15), .int 10]) (ok_lead_range T) hr ⟨h2, rAll, rKept, false, _, -15, 10, gA, extr_of z2.1, extr_of z2.2, rfl, rfl⟩ (ad_cons (pd_name 12) (ad_cons (pd_name 10) (ad_cons (pd_name 11) (ad_cons pd_str ad_nil)))))
      (ad_cons (pd_lead0 (dl := [h2.enc, rAll.enc, rKept.enc, .str (kindS false)]) (d := encL [0, 0]) (ok_lead_row T) hr ⟨h2, rAll, rKept, false, false, _, 10, [0, 0], gA, extr_of z2.2, z3, rfl, rfl⟩ (ad_cons (pd_name 12) (ad_cons (pd_name 10) (ad_cons (pd_name 11) (ad_cons pd_str ad_nil))))) ad_nil)) (by exact lle rfl))
    (sl_cat sc_law.nd (li_cat (li_name 9) (lk_lst (ad_cons (pd_leadK (dl := [h2.enc, rAll.enc, rKept.enc, .str (kindS true)]) (d := encL [0, 0, 1]) (ok_lead_row T) hr ⟨h2, rAll, rKept, true, true, _, gl, [0, 0, 1], gB, extr_of e4, e4', rfl, rfl⟩ (ad_cons (pd_name 12) (ad_cons (pd_name 10) (ad_cons (pd_name 11) (ad_cons pd_str ad_nil)))) pd_bl)
      (ad_cons (pd_fn (d := encL [0, 0]) (ok_parting_row T) hr ⟨h2, rKept, rAll, false, _, gC, rfl, by rw [z5]; rfl⟩ (ad_cons (pd_name 12) (ad_cons (pd_name 11) (ad_cons (pd_name 10) (ad_cons pd_str ad_nil))))) ad_nil)) (by exact lle rfl)) (by exact lle rfl))
    (sl_cat sc_law.nd (li_cat (li_name 9) (lk_lst (ad_cons (pd_eq (d := .bool false) (pd_fn (d := .bool (decide ((-15 : Int) = 0 ∧ (10 : Int) = 0))) (ok_are_alike T) hr ⟨h2, rKept, rK, false, _, -15, 10, gD, extr_of zD.1, extr_of zD.2, rfl, rfl⟩ (ad_cons (pd_name 12) (ad_cons (pd_name 11) (ad_cons (pd_tup (ad_cons pd_str (ad_cons (pd_tup (ad_cons pd_int (ad_cons pd_int ad_nil)) (by exact lle rfl)) ad_nil)) (by exact lle rfl)) (ad_cons pd_str ad_nil))))) (congrArg PyData.bool (by decide)))
      (ad_cons (pd_eq (d := .bool true) (pd_fn (d := .bool (decide (0 ≤ lo7))) (ok_never_less T) hr ⟨h2, rO15, rKept, false, _, lo7, hi7, gE, extr_of e7, extr_of e7', rfl, rfl⟩ (ad_cons (pd_name 12) (ad_cons (pd_tup (ad_cons pd_str (ad_cons (pd_name 11) (ad_cons pd_int ad_nil))) (by exact lle rfl)) (ad_cons (pd_name 11) (ad_cons pd_str ad_nil))))) (congrArg PyData.bool p7)) ad_nil)) (by exact lle rfl)) (by exact lle rfl))
    (sl_cat sc_law.nd (li_cat (li_name 9) (lk_lst (ad_cons (pd_fn (d := .tuple [.int 0, .int 10]) (ok_lead_range T) hr ⟨h2, rO5, rKept, false, _, 0, 10, gF, extr_of z8.1, extr_of z8.2, rfl, rfl⟩ (ad_cons (pd_name 12) (ad_cons (pd_tup (ad_cons pd_str (ad_cons (pd_name 11) (ad_cons pd_int ad_nil))) (by exact lle rfl)) (ad_cons (pd_name 11) (ad_cons pd_str ad_nil)))))
      (ad_cons (pd_eq (d := .bool false) (pd_fn (d := .bool (decide (0 ≤ lo9))) (ok_never_less T) hr ⟨h2, rKept, rAll, false, _, lo9, hi9, gC, extr_of e9, extr_of e9', rfl, rfl⟩ (ad_cons (pd_name 12) (ad_cons (pd_name 11) (ad_cons (pd_name 10) (ad_cons pd_str ad_nil))))) (congrArg PyData.bool p9)) ad_nil)) (by exact lle rfl)) (by exact lle rfl))
    (sl_end
    (sr_ret (pd_o (po_callG (ok_law_like T) hgd hr ⟨endD, shown_end, rfl, rfl⟩ (ah_d (ad_cons (pd_name 9) (ad_cons (pd_eq (pd_lst (ad_cons (pd_tup (ad_cons (pd_neg pd_int) (ad_cons pd_int ad_nil)) (by exact lle rfl)) (ad_cons (pd_tup (ad_cons pd_int (ad_cons pd_int ad_nil)) (by exact lle rfl)) (ad_cons (pd_tup (ad_cons pd_int (ad_cons pd_int (ad_cons pd_int ad_nil))) (by exact lle rfl)) (ad_cons (pd_tup (ad_cons pd_int (ad_cons pd_int ad_nil)) (by exact lle rfl)) (ad_cons pd_bl (ad_cons pd_bl (ad_cons (pd_tup (ad_cons pd_int (ad_cons pd_int ad_nil)) (by exact lle rfl)) (ad_cons pd_bl ad_nil)))))))) (by exact lle rfl)) rfl) ad_nil))))))))))))
end
end G33
set_option Elab.async false
set_option linter.all false
set_option maxRecDepth 100000
set_option maxHeartbeats 4000000
namespace G33
open PySem PySem.Spec PyProof.Rows L2
/-! ### the law's def -/
/-- the law's code object and its table -/
abbrev lawT (K : PySem.W.Frag) : Addr × Addr := He.cT K ("law", none)
def spLaw (K : PySem.W.Frag) : Sp := fun vs H Q _ => ∃ (a : Addr) (ns : List Int), vs = [.ref a] ∧ ns.length ≤ 63 ∧ SqL K H a (ns.map V.int) ∧ H (lawT K).2 = some (.tbl #[]) ∧ ∀ H', Q (.bl true) H'
theorem sql_exM {K : PySem.W.Frag} {M : Mm} {H H1 H2 : Hp} {a : Addr} {xs : List V} (h : SqL K H a xs) (e1 : Ex H H1) (nm : H M.m = none) (ng : H M.g = none) (e2 : ExM M H1 H2) : SqL K H2 a xs := by
  rcases h with h | h
  · have n1 : a ≠ M.m := by
      rintro rfl
      rcases h with h | ⟨o, h⟩ <;> (rw [nm] at h; cases h)
    have n2 : a ≠ M.g := by
      rintro rfl
      rcases h with h | ⟨o, h⟩ <;> (rw [ng] at h; cases h)
    rcases h with h | ⟨o, h⟩
    · exact .inl (.inl (e2 _ _ n1 n2 (e1 _ _ h)))
    · exact .inl (.inr ⟨o, e2 _ _ n1 n2 (e1 _ _ h)⟩)
  · exact .inr h
theorem extN_exT {H H' : Hp} (e : LamX.ExtN H H') : ExT H H' := fun b xs h => by
  rcases h with h | ⟨o, h⟩
  · exact .inl (e _ _ h fun ps z => nomatch z)
  · exact .inr ⟨o, e _ _ h fun ps z => nomatch z⟩
theorem leads_ne {h : Hall} {r s : Ru} {rs : Bool} {n N : Nat} (x : Fin h r s rs n N) : leads h (bst h r s rs n).1 ≠ [] := fun e => by
  have h0 : hasK (bst h r s rs n).1 (first h) = true := by
    have : ∀ k, hasK (bst h r s rs k).1 (first h) = true := by
      intro k
      induction k with
      | zero => exact hasK_iff.mpr (by show first h ∈ [(first h)]; simp)
      | succ k ih => exact grows_has (foldl_grows visP_grows _ ((bst h r s rs k).1, [])) ih
    exact this n
  have h1 := hasK_iff.mp h0
  obtain ⟨q, hq, _⟩ := List.mem_map.mp h1
  have h2 : lead h q.1 ∈ leads h (bst h r s rs n).1 := List.mem_map.mpr ⟨q, hq, rfl⟩
  rw [e] at h2
  cases h2
/-- isinstance(e, list), e any way to a list -/
theorem pe_isiG {X : Cx} {ta : TE} {e : Expr} {p pos pT : Pos} (hm : X.mg "isinstance" = none) (hT : X.mg "list" = none) (mono : ∀ σ H (Q Q' : VK), (∀ v H1, Q v H1 → Q' v H1) → ta σ H Q → ta σ H Q') (ha : PE X e ta) (hg : Gl X "isinstance" := by rfl) (hgT : Gl X "list" := by rfl)
    (he : starEach [e, .Name "list" pT] X.env = (false, eval e X.env) :: starEach [.Name "list" pT] X.env := by rfl) (hpl : (backTo pos (starEach [.Name "list" pT] X.env)).any (·.1) = false := by rfl) : PE X (.Call (.Name "isinstance" p) [e, .Name "list" pT] [] pos) (fun σ H Q => ta σ H fun v H1 => ∃ xs, Dp X.K H1 v (.list xs) ∧ Q (.bl true) H1) :=
  pe_imp (pe_callB call_isi hg hm (by decide +kernel) (pa_cons ha (pa_cons (pe_bltn (v := .ty "list") hgT hT bt_list rfl) pa_nil) he) (by decide) (by decide) he hpl) fun σ H Q q =>
    mono _ _ _ _ (fun v H1 z => by
      obtain ⟨xs, d, z⟩ := z
      exact ⟨v, .ty "list", .type (tyn (.list xs)), .type "list", true, rfl, .ty "list", tyx_of d, kit_ty ki_list_list, z⟩) q
theorem mono_told {w : World} {K : PySem.W.Frag} {T : List (Addr × Str)} {ds : Ds} {d : PyData} : ∀ σ H (Q Q' : VK), (∀ v H1, Q v H1 → Q' v H1) → LamX.tLam T TToldL (fun _ => teD w K ds d) σ H Q → LamX.tLam T TToldL (fun _ => teD w K ds d) σ H Q' := fun σ H Q Q' k q =>
  ⟨q.1, fun H1 e1 t1 => fun H2 e2 Q2 k2 => q.2 H1 e1 t1 H2 e2 Q2 fun v H' z => k2 v H' fun p H3 e3 hp => k _ _ (z p H3 e3 hp)⟩
abbrev ds3 : Ds := [none, none, none, none, none, none, none, none, none, none, some rA6.enc, some rK6.enc, some h6.enc, none]
theorem pu3 : PuA ds3 := .n (.n (.n (.n (.n (.n (.n (.n (.n (.n (.p (pure_ru _) (.p (pure_ru _) (.p (pure_hall _) (.n .nil)))))))))))))
section
variable {P : Program} {w : World} {K : PySem.W.Frag} {mg : Str → Option Value} {base : Heap}
theorem ok_law (T : Fx K mg) : ∃ fd, (∀ base : Heap, LamX.TabB base mg (lawT K).1 (lawT K).2 → FnOkG P w K mg base 12 (He.ga K "law") fd ["_law_script"] (spLaw K)) ∧ ∀ (s : Shared) (u : Value), BindsTo s fd ⟨[u], []⟩ [("_law_script", u)] := by
  obtain ⟨fd, F⟩ := T.says.def_ 60 (d := d97) rfl
  have hbA := FunD.bindsA (ps := ["_law_script"]) F fun _ _ _ _ _ _ us hl => match us, hl with | [_], _ => rfl
  refine ⟨fd, fun base TB => ?_, fun s u => hbA s [u] rfl⟩
  obtain ⟨oc, od, dV, kV, doc, pm, an, cdv, ct, osl, rfl, lk, hcd, _, _⟩ := F.ex
  obtain ⟨c, rfl⟩ := He.codeIn_ref hcd
  have hcT : (lawT K).1 = c := He.codeOf_eq (p := ("law", none)) lk rfl
  refine fn_ofG lk hcd sc_law (fun vs H Q E h => by obtain ⟨_, _, rfl, _⟩ := h; rfl) fun A outer sh H vs Q E hgd hr hsp => ?_
  obtain ⟨a, ns, rfl, hns, hS, hT, hQ⟩ := hsp
  refine ⟨tH (fun σ H' => σ = L2.start N_law [.ref a] ∧ H' = H) (fun _ _ => False) (fun v _ => v = .bl true), PSs.nox ?_, ⟨rfl, rfl⟩, fun _ _ f => f.elim, fun v H' e => by subst e; exact hQ H'⟩
  have L0 : Lc w K H (L2.start N_law [.ref a]) (startD 14 [.list (ns.map .int)]) := Lc.start (.cons (.lst hS (ints_dpa ns)) .nil)
  -- the state that draws
  refine hs_cons (M := fun σ H1 => ∃ M : Mm, Ex H H1 ∧ H M.m = none ∧ H M.g = none ∧ LQ w K M H1 a 0 ld0 σ H1)
    (hs_asgO (ds := startD 14 [.list (ns.map .int)]) 1 sc_law.nd (po_call (ok_law_begun T) hr ⟨ns, hns, rfl, rfl⟩ (ah_d (ad_cons (pd_name 0) ad_nil))) (fun σ H' q => by obtain ⟨rfl, rfl⟩ := q; exact L0) (fun σ H' H1 v H2 q e o => ?_)) ?_
  · obtain ⟨rfl, rfl⟩ := q
    obtain ⟨M, e2, rfl, h1, h2, h3, ms⟩ := o
    have L1 := ((L0.up e).up e2).un 1 (some (.ref M.m))
    exact ⟨M, e.trans e2, ex_none e h1, ex_none e h2, .refl _ _, rfl, rfl, ms, SubD.lc (.skip (.same (.same (.same (.same (.same (.same (.same (.same (.same (.same (.same (.same (.same .nil)))))))))))))) L1⟩
  refine hs_ex fun M => hs_pre fun σ1 H1 z1 => ?_
  obtain ⟨e1, nm, ng, q1⟩ := z1
  -- six turns
  have pu0 : PuA ld0 := lds_pu no_pu no_pu no_pu no_pu no_pu no_pu no_pu no_pu
  refine hs_cons (M := LQ w K M H1 a 660 ld0) (hm_forR (hm := T.f_range) (M := M) (t := 1) (n := 0) (n1 := 0) (ds := ld0) (Ψ := (· = .int 6)) 2 6 (fun k i σ H => k = 6 ∧ LQ w K M H1 a (0 + 110 * i) ld0 σ H) (fun k i σ H => k = 6 ∧ LQ w K M H1 a (0 + 110 * i) ld0 σ H) nox_xe rfl sc_law.nd pu0 (em_d pd_int (pure_int _)) (fun d hd => ⟨6, Nat.le_refl _, hd⟩) (by decide)
    (fun σ H q => by obtain ⟨rfl, rfl⟩ := q; exact q1.lm) (fun σ H H' k q e m hk hΨ => ?_) (fun k σ H q => ?_) (fun k i σ H H2 u hik q e du => ⟨q.1, (q.2.up e).un (i := 2) (by decide)⟩) (fun k i hik => ?_)) ?_
  · obtain ⟨rfl, rfl⟩ := q
    have hΨ : PyData.int (k : Nat) = .int 6 := hΨ
    injection hΨ with h6
    exact ⟨by omega, q1.go pu0 e m⟩
  · obtain ⟨rfl, q⟩ := q
    exact q
  · refine hs_pre fun σ2 H2 z2 => ?_
    obtain ⟨rfl, q2⟩ := z2
    exact hs_conseq (law_turn T hgd hr (n := 0 + 110 * i) (by omega)) (fun σ H q => by obtain ⟨rfl, rfl⟩ := q; exact q2) fun σ H q => ⟨rfl, by rw [show 0 + 110 * (i + 1) = 0 + 110 * i + 110 by omega]; exact q⟩
  -- the hall of six seats
  refine hs_cons (M := LQ w K M H1 a 660 ds3) (ps_imp (ps_asg (pd_eq (ds := ld0) (d := .tuple [h6.enc, rA6.enc, rK6.enc]) (pd_tup (ad_cons (pd_tup (ad_cons pd_int (ad_cons (pd_tup (ad_cons pd_int (ad_cons pd_int (ad_cons pd_int (ad_cons pd_int ad_nil)))) (by exact lle rfl)) ad_nil)) (by exact lle rfl)) (ad_cons (pd_tup (ad_cons pd_str (ad_cons (pd_repN (k := 4) (pd_tup (ad_cons pd_int ad_nil) (by exact lle rfl)) pd_int (by decide) (by decide)) ad_nil)) (by exact lle rfl)) (ad_cons (pd_tup (ad_cons pd_str (ad_cons (pd_tup (ad_cons pd_int (ad_cons pd_int (ad_cons pd_int (ad_cons pd_int ad_nil)))) (by exact lle rfl)) ad_nil)) (by exact lle rfl)) ad_nil))) (by exact lle rfl)) rfl)
    (pg_tup rfl (pgs_cons (pg_name (i := 12) sc_law.nd rfl (.inr rfl)) (pgs_cons (pg_name (i := 10) sc_law.nd rfl (.inr rfl)) (pgs_cons (pg_name (i := 11) sc_law.nd rfl (.inr rfl)) pgs_nil)))) rfl rfl) fun D σ H' q => ?_) ?_
  · obtain ⟨q2, hN, _⟩ := q
    refine ⟨q2.lm.lc, fun v H3 e3 dv => ?_⟩
    cases dv with
    | tup hs hd =>
      cases hd with
      | cons d1 hd =>
        cases hd with
        | cons d2 hd =>
          cases hd with
          | cons d3 hd =>
            cases hd
            exact ⟨_, _, rfl, hs, rfl, _, _, rfl, _, _, rfl, _, _, rfl, rfl, hN _ _ ((((q2.up e3).set (i := 12) (by decide) d1).set (i := 10) (by decide) d2).set (i := 11) (by decide) d3)⟩
  refine hs_pre fun σ3 H3 q3 => ?_
  have S3 : SqL K H3 a (ns.map V.int) := sql_exM hS e1 nm ng q3.ex
  have nPm : (lawT K).2 ≠ M.m := fun e => by rw [e, nm] at hT; cases hT
  have nPg : (lawT K).2 ≠ M.g := fun e => by rw [e, ng] at hT; cases hT
  have T3 : H3 (lawT K).2 = some (.tbl #[]) := q3.ex _ _ nPm nPg (e1 _ _ hT)
  have D3 : Dp K H3 (.ref a) (.list (ns.map .int)) := .lst S3 (ints_dpa ns)
  have L3 : Lc w K H3 σ3 (ds3.set 0 (some (.list (ns.map .int)))) := lc_know q3.lm.lc q3.s0 (.inl D3) rfl
  refine hs_cons (M := fun σ _ => σ.length = 14) ?_ (pss_imp (law_end T hgd hr) fun D σ H' q => ⟨⟨q.1, fun i d e => ?_⟩, fun v H2 e2 d2 => by cases d2; exact q.2.2 _ _ rfl⟩)
  · by_cases hns0 : ns = []
    · -- the empty script: told
      obtain ⟨n6, fn6⟩ := fin6
      have go6 := fn6.go (Nat.le_refl _)
      have hne6 : leads h6 (bst h6 rA6 rK6 false n6).1 ≠ [] := leads_ne fn6
      obtain ⟨lo, hlo⟩ := extr_ex true hne6
      obtain ⟨hi, hhi⟩ := extr_ex false hne6
      obtain ⟨fdT, FT⟩ := T.says.def_ 52 (d := d89) rfl
      have bT := FunD.bindsN (ps := ["_law_call"]) FT fun _ _ _ _ _ _ us hl => match us, hl with | [_], _ => rfl
      have kpT := FT.kp
      obtain ⟨oc2, od2, dV2, kV2, doc2, pm2, an2, cdv2, ct2, osl2, rfl, lk2, hcd2, _, _⟩ := FT.ex
      refine ps_imp (ps_if (w_t (pw_and (pt_eqD (ds := ds3.set 0 (some (.list (ns.map .int)))) hr.units (pd_name 0) (pd_lst ad_nil (by exact lle rfl)) ((shp_ints ns (n := 1)).ok (by decide)) sh_nilL) (pw_and1 (pt_not (pt_val (pe_isiG (ta := LamX.tLam [((lawT K).2, (envOfC "law" (defScope (top 97)) sh.heap.objs.size (He.ga K "law") (.ref c)).qual ++ "<lambda>")] TToldL (fun _ => teD w K ds3 (.tuple [.int lo, .int hi]))) T.f_isinstance T.f_list mono_told ?_)))))) pss_never pss_nil) fun D σ H' q => ?_
      · exact LamX.pe_lamcall (k := 9) (Ng := N_law_told) rfl (T.glo 52 rfl) kpT lk2 hcd2 bT sc_law_told rfl (.inl rfl) told_givesL TB (congrArg Value.ref hcT.symm) (List.mem_singleton.mpr rfl) (fun p hp _ => by rw [List.mem_singleton.mp hp]; rfl) hr (LamX.lamS_by (sc := defScope (top 97)) (by decide +kernel)) rfl (fun _ _ _ _ _ => rfl)
          (fun A' outer' s' H' E' f' c' hr' => pd_fn (d := .tuple [.int lo, .int hi]) (ok_lead_range T) hr' ⟨h6, rA6, rK6, false, _, lo, hi, go6, hlo, hhi, rfl, rfl⟩ (ad_cons (pd_name 12) (ad_cons (pd_name 10) (ad_cons (pd_name 11) (ad_cons pd_str ad_nil)))))
      · obtain ⟨⟨rfl, rfl⟩, hN, _⟩ := q
        refine ⟨L3, fun H4 e4 => ?_⟩
        subst hns0
        refine iteT ⟨fun p hp => ?_, fun H5 e5 t5 => fun H6 e6 Q6 k6 => ⟨?_, fun v H7 e7 d7 => k6 v H7 fun p H8 e8 hp => ⟨[.tuple [.int lo, .int hi]], .lst (.inl (.inl upd_same)) (.cons ((d7.up e8).up (Evl.Ex.new hp)) .nil), true, rfl, ?_⟩⟩⟩
        · rw [List.mem_singleton.mp hp]
          exact LamX.TabS.nil (e4 _ _ T3)
        · exact ((q3.lm.lc.up e4).upT pu3.get (extN_exT e5)).up e6
        · exact iteF (hN _ _ q3.lm.lc.1)
    · have hne : PyData.eqv (.list (ns.map .int)) (.list []) = false := by
        rw [eqv_nilL]
        cases ns with
        | nil => exact absurd rfl hns0
        | cons x l => rfl
      refine hp_conseq (P := fun σ H => σ = σ3 ∧ Ex H3 H) (N := fun σ H => σ = σ3 ∧ Ex H3 H) (hs_if (k := false) (ds := ds3.set 0 (some (.list (ns.map .int)))) (w_t (wt_and (k := false) (k' := true) (pt_eq (pt_eqD hr.units (pd_name 0) (pd_lst ad_nil (by exact lle rfl)) ((shp_ints ns (n := 1)).ok (by decide)) sh_nilL) hne) (fun hb => nomatch hb))) (fun σ H q => by obtain ⟨rfl, e⟩ := q; exact L3.up e) (fun σ H H' q e => ⟨q.1, q.2.trans e⟩) (fun hb => nomatch hb) (fun _ => hs_nil))
        (fun σ H q => by obtain ⟨rfl, rfl⟩ := q; exact ⟨rfl, Evl.Ex.refl _⟩) fun σ H q => by obtain ⟨rfl, _⟩ := q; exact q3.lm.lc.1
  · match i, e with
    | 0, e | 1, e | 2, e | 3, e | 4, e | 5, e | 6, e | 7, e | 8, e | 9, e | 10, e | 11, e | 12, e | 13, e => cases e
    | i + 14, e => simp at e
end
end G33
set_option Elab.async false
set_option linter.all false
set_option maxRecDepth 100000
set_option maxHeartbeats 2000000
namespace G33
open PySem PySem.Spec PyProof.Rows L2
/-! ### the call from outside, of a promise that wants no repr under way (FnOkG); one code table T0 -/
/-- what is tracked at first: the table; the script, where it is no object of the module -/
def trk0 (K : PySem.W.Frag) (T0 a : Addr) (o : Obj) (xs : List V) : Hp := fun b => if b = T0 then some (.tbl #[]) else if b = a ∧ K.lookup a = none then some (.frz o (.lst xs)) else none
section
variable {K : PySem.W.Frag} {T0 a b : Addr} {o : Obj} {xs : List V}
theorem trk0_tab : trk0 K T0 a o xs T0 = some (.tbl #[]) := if_pos rfl
theorem trk0_off (h1 : b ≠ T0) (h2 : b ≠ a) : trk0 K T0 a o xs b = none := (if_neg h1).trans (if_neg fun z => h2 z.1)
theorem trk0_cases {u : HO} (h : trk0 K T0 a o xs b = some u) : (b = T0 ∧ u = .tbl #[]) ∨ (b = a ∧ K.lookup a = none ∧ u = .frz o (.lst xs)) := by
  unfold trk0 at h
  split at h
  · rename_i e
    cases h
    exact .inl ⟨e, rfl⟩
  · split at h
    · rename_i e
      cases h
      exact .inr ⟨e.1, e.2, rfl⟩
    · cases h
theorem trk0_in (nT : K.lookup T0 = none) {v : Obj} (h : K.lookup b = some v) : trk0 K T0 a o xs b = none := by
  cases q : trk0 K T0 a o xs b with
  | none => rfl
  | some u =>
    rcases trk0_cases q with ⟨e, _⟩ | ⟨e, z, _⟩
    · rw [e, nT] at h; cases h
    · rw [e, z] at h; cases h
end
theorem law_callG {P : Program} {w : World} {K : PySem.W.Frag} {mg mb : Str → Option Value} {k : Nat} {fa a c T0 : Addr} {fd : FuncData} {x : Str} {sp : Sp} {st : Shared} {vs : List Value} {ns : List Int}
    (hK : K.In st.heap) (hmg : st.heap.Ns mainGlobals mg) (hmb : st.heap.Ns builtinsNs mb) (hblt : ∀ y : Str, y ≠ "__name__" → mb y = bootBuiltins y) (hnl : st.heap.NoLimit) (hgn : st.gens = #[])
    (hT0 : st.heap.get? T0 = some { cls := .none, data := .fields #[] }) (nT0 : K.lookup T0 = none) (hC : PySem.W.CodeHd st.heap c T0) (hbm : ∃ (bm : Addr) (ob : Obj), mg "__builtins__" = some (.ref bm) ∧ bm ≠ builtinsNs ∧ st.heap.get? bm = some ob ∧ ob.cls = .type "module" ∧ ob.dict = some builtinsNs ∧ ob.data = .plain)
    (hscr : st.heap.get? a = some { cls := .type "list", data := .seq vs.toArray }) (hints : IntsAre vs ns) (hfew : ns.length ≤ sizeLine) (hroom : Room k callerA)
    (F : ∀ base : Heap, K.In base → base.Ns mainGlobals mg → LamX.TabB base mg c T0 → FnOkG P w K mg base k fa fd [x] sp) (hbind : ∀ (s : Shared) (u : Value), BindsTo s fd ⟨[u], []⟩ [(x, u)])
    (hsp : ∀ H : Hp, H T0 = some (.tbl #[]) → SqL K H a (ns.map V.int) → sp [.ref a] H (fun v _ => v = .bl true) fun _ _ _ => False) :
    codeAny (model P w) callerA (.call (.ref fa) ⟨[.ref a], []⟩) (fun r s' => r = .ok (.ret (.bool true)) ∧ OldK st.heap s'.heap ∧ s'.os = st.os ∧ AllBare s'.gens) st := by
  have rv := vals_ints hints
  have hlv := hints.length
  have naT : a ≠ T0 := fun e => by
    rw [e, hT0] at hscr
    exact nomatch congrArg Obj.data (Option.some.inj hscr)
  generalize eob : ({ cls := .type "list", data := .seq vs.toArray } : Obj) = ob at hscr
  have hob : ob.data = .seq vs.toArray := by rw [← eob]
  -- only lists and empty tables may be tracked
  have clear : ∀ {b : Addr} {v : Obj}, st.heap.get? b = some v → (∀ ys n, v.data ≠ .seq ys n) → v.data ≠ .fields #[] → trk0 K T0 a ob (ns.map V.int) b = none := fun {b v} e z1 z2 => by
    refine trk0_off (fun q => ?_) fun q => ?_
    · rw [q, hT0] at e
      cases e
      exact z2 rfl
    · rw [q, hscr] at e
      cases e
      exact z1 _ _ hob
  have low : ∀ {b : Addr} {v : Obj}, st.heap.get? b = some v → (∀ ys n, v.data ≠ .seq ys n) → v.data ≠ .fields #[] → (hidT st.heap (trk0 K T0 a ob (ns.map V.int))).get? b = some v := fun e z1 z2 => hidT_get e (clear e z1 z2)
  have lowNs : ∀ {b : Addr} {m : Str → Option Value}, st.heap.Ns b m → (hidT st.heap (trk0 K T0 a ob (ns.map V.int))).Ns b m := fun {b m} ⟨v, es, n, e, hd, r⟩ =>
    ⟨v, es, n, low e (fun ys i z => nomatch hd.symm.trans z) (fun z => nomatch hd.symm.trans z), hd, r⟩
  have lowK : K.In (hidT st.heap (trk0 K T0 a ob (ns.map V.int))) := fun b v e => hidT_get (hK b v e) (trk0_in nT0 e)
  have md : L2.Mod K mg (hidT st.heap (trk0 K T0 a ob (ns.map V.int))) := by
    obtain ⟨mc, h1, h2⟩ := hnl
    exact ⟨lowK, lowNs hmg, ⟨mb, lowNs hmb, hblt⟩, mc, lowNs h1, h2⟩
  have ok0 : HOk P w (trk0 K T0 a ob (ns.map V.int)) st.heap := fun b u z => by
    rcases trk0_cases z with ⟨rfl, rfl⟩ | ⟨rfl, _, rfl⟩
    · exact hT0
    · subst eob
      exact ⟨hscr, by rw [List.length_map]; exact hfew, vs, _, rv, hscr⟩
  have scr : SqL K (trk0 K T0 a ob (ns.map V.int)) a (ns.map V.int) := by
    cases q : K.lookup a with
    | none => exact .inl (.inr ⟨ob, (if_neg naT).trans (if_pos ⟨rfl, q⟩)⟩)
    | some v =>
      have e := hK a v q
      rw [hscr] at e
      cases e
      subst eob
      exact .inr ⟨_, vs.toArray, _, q, rfl, rfl, rfl, by rw [List.size_toArray, hlv]; exact hfew, by simpa using rv⟩
  have tb : LamX.TabB (hidT st.heap (trk0 K T0 a ob (ns.map V.int))) mg c T0 := by
    refine ⟨?_, ?_, fun z => ?_⟩
    · obtain ⟨v, us, f1, f2, f3, f4, f5, f6, f7, e, r1, r2, r3, rest⟩ := hC
      refine ⟨v, us, f1, f2, f3, f4, f5, f6, f7, low e (fun ys i z => nomatch r2.symm.trans z) (fun z => ?_), r1, r2, r3, rest⟩
      have z' := r2.symm.trans z
      cases z'
      simp at r3
    · obtain ⟨bm, v, m1, m2, m3, m4, m5, m6⟩ := hbm
      refine ⟨bm, v, m1, m2, fun q => ?_, fun q => ?_, low m3 (fun ys i z => nomatch m6.symm.trans z) (fun z => nomatch m6.symm.trans z), m4, m5, m6⟩
      · obtain ⟨v', es, n, e, hd, _⟩ := hmg
        rw [q, e] at m3
        cases m3
        exact nomatch hd.symm.trans m6
      · rw [q, hT0] at m3
        cases m3
        cases m6
    · obtain ⟨v', es, n, e, hd, _⟩ := hmg
      rw [z, hT0] at e
      cases e
      cases hd
  have env : Env0 P w K mg (hidT st.heap (trk0 K T0 a ob (ns.map V.int))) callerA [] st (trk0 K T0 a ob (ns.map V.int)) :=
    ⟨rfl, md, fun b v e => of_hidT e, Nat.le_of_eq (hidT_size _ _), trivial, fun b hb => absurd (show b ∈ ([] : List Addr) from hb) (by simp), ok0, .of_eq hgn⟩
  refine codeAny_mono ((F _ lowK (lowNs hmg) tb).run callerA [] st _ ⟨[.ref a], []⟩ [.ref a] [.ref a] _ _ rfl hroom env (hbind st (.ref a)) (.cons rfl .nil) (hsp _ trk0_tab scr)) fun r s' h => ?_
  match r, h with
  | .error _, h => exact h.elim
  | .ok .next, h => exact h.elim
  | .ok .brk, h => exact h.elim
  | .ok .cont, h => exact h.elim
  | .ok (.ret u), h =>
    obtain ⟨v, H', os, bare, un, ok', rel, rfl⟩ := h
    obtain rfl : u = Value.bool true := rel
    have stays : ∀ b v, b ≠ T0 → st.heap.get? b = some v → s'.heap.get? b = some v := fun b v nb e => by
      cases q : trk0 K T0 a ob (ns.map V.int) b with
      | none => exact un.keep b v e q (fun z => absurd (show b ∈ ([] : List Addr) from z) (by simp)) (by simp)
      | some u =>
        rcases trk0_cases q with ⟨z, _⟩ | ⟨rfl, _, rfl⟩
        · exact absurd z nb
        · have e1 := (ok0 _ _ q).1
          have e2 := (ok' _ _ (un.frzs _ _ _ q)).1
          rw [e1] at e
          cases e
          exact e2
    obtain ⟨more, hm⟩ := un.tbls T0 #[] trk0_tab
    have hm' : s'.heap.get? T0 = some { cls := .none, data := .fields (#[] ++ more) } := ok' T0 _ hm
    refine ⟨rfl, ⟨fun b v e => ?_, fun b v e => ?_⟩, os, bare⟩
    · by_cases nb : b = T0
      · subst nb
        rw [hT0] at e
        cases e
        exact .inr (.inl ⟨(hC.tab hT0).isCodeTable, rfl, #[], more, rfl, hm'⟩)
      · exact .inl (stays b v nb e)
    · by_cases nb : b = T0
      · subst nb
        exact ⟨_, hm'⟩
      · exact ⟨v, stays b v nb e⟩
end G33
set_option Elab.async false
set_option linter.all false
set_option maxRecDepth 100000
set_option maxHeartbeats 8000000
open PySem PySem.W PyProof.Rows
theorem PySem.Challenge.cw_booklimits_k48_whole_leads_holds : PySem.Challenge.rw_booklimits_k48_whole_leads.Holds := by
  w_on; o_law
  refine HandSHeadRun.head_any (r := G33.Rw) (q := view G33.Rw.prog [97]) (H := G33.hk) (ob := G33.ob) (M := 30000) (loose := G33.nm) (d := HandSHeadRun.topDef G33.Rw.prog 97) (kwd := []) G33.ob_eq
    (by kernel_rfl) (fun s => by kernel_rfl) G33.run (by kernel_rfl) (by kernel_rfl) (by kernel_rfl) (by rfl) (by first | assumption | decide +kernel) (by decide +kernel) ⟨rfl, rfl, rfl, rfl, rfl, by decide +kernel⟩ ?hw ?hc
  case hw => w_witness2
  case hc =>
    refine Att.attach_callB (l := PySem.Challenge.rw_booklimits_k48_whole_leads) (n := 63) rfl (by kernel_rfl) fun w s0 st mg mb f o pm cd doc a vs ns G Y ho hd hcd hmg hobj hints hlen hbits hg => ?_
    obtain ⟨K, KX, c⟩ := Y
    have hmg' : mg ("law" : PySem.Str) = some (.ref f) := by
      have e : (HandSHeadRun.topDef G33.Rw.prog 97).name = ("law" : PySem.Str) := by kernel_rfl
      rw [← e]
      exact hmg
    have ef : f = He.ga K "law" := by
      have e := hmg'.symm.trans (He.glo_ok KX G.T.g (c.t.d.fact 60 (f := .glo "law") rfl))
      cases e
      rfl
    subst ef
    have mem : (("law", none) : He.Defn) ∈ G33.tfs := List.mem_singleton.mpr rfl
    have T : G33.Fx K mg := ⟨c.t.d, st.heap, KX, G.T.g⟩
    obtain ⟨fd, hF, hb⟩ := G33.ok_law (P := PySem.Challenge.rw_booklimits_k48_whole_leads.prog) (w := w) T
    refine G33.law_callG (c := (G33.lawT K).1) (T0 := (G33.lawT K).2) (k := 12) KX G.T.g G.T.b G.T.builtins G.T.nolimit hg (c.empty _ mem) (c.out _ mem) (PySem.W.codeHd_of_K KX (c.hd _ mem)) G.T.bmain hobj hints (Nat.le_trans hlen (by decide)) ⟨rfl, by decide, by decide⟩ (fun base _ _ TB => hF base TB) hb fun H hT hS => ⟨_, ns, rfl, hlen, hS, hT, fun _ => rfl⟩
