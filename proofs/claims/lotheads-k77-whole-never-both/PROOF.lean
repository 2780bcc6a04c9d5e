import PyProof.Rows.All
import Wide.All
import OpenK.AllK
import Wide.FinOn
import PySem.Challenge.RW_lotheads_k77_whole_never_both
import HandS.ForMost
import HandS.More
import HandS.Defaults
import HandS.Lambda
import HandS.IsInst
import HandS.Wide
import HandS.TupMul
import KE.KStateDown
import HandS.Head0
import HandS.Head1
import HandS.Head2
import HandS.HeadEnd
import HandS.HeadHook1
import HandS.HeadHook2
import HandS.HeadHook3
import HandS.HeadHook4
import HandS.HeadWalk
import HandS.EndTab
import HandS.TupAny
import HandS.SortRule
import HandS.SortInts
import HandS.Style
import HandS.CallLocal
import HandS.Deep
import HandS.Flow
import HandS.Zip
import HandS.Conv
import HandS.SetFor
import HandS.SortKw
import KE.SortData
import KE.DatumOrd
section
set_option Elab.async false
set_option linter.all false
set_option autoImplicit false
set_option maxRecDepth 100000
set_option maxHeartbeats 0
/-! A0: the names and tables of the text's top, as data. -/
namespace Qd
open PySem
open PySem.Spec
open PyProof.Rows
open L2
open LamX (ExtN Tabs TabS CodeO TabB)

def blts1 : List Str := ["len", "isinstance", "range", "all", "any", "tuple", "list", "int"]
def blts2 : List Str := ["str", "bool", "sorted", "sum", "max", "min", "abs", "set"]
def blts : List Str := blts1 ++ blts2
def topS (i : Nat) : Stmt := PySem.Challenge.pw_lotheads_k77_whole_never_both.main.body.getD i (.Pass ⟨0, 0, 0, 0⟩)
def tab0 : List (Str × Str × Nat) := [("is_thing", "is_thing", 10), ("ends_at", "ends_at", 11), ("is_forest", "is_forest", 12), ("check_forest", "check_forest", 13), ("is_short", "is_short", 16), ("check_short", "check_short", 17), ("gone_through", "gone_through", 18), ("put_up", "put_up", 19), ("walked_whole", "walked_whole", 20), ("walked_by_parts", "walked_by_parts", 21), ("walked", "walked", 22), ("is_whole", "is_whole", 26)]
def tab1 : List (Str × Str × Nat) := [("check_many", "check_many", 27), ("is_join_word", "is_join_word", 28), ("check_join", "check_join", 29), ("new_store", "new_store", 30), ("is_thing_of", "is_thing_of", 32), ("is_word", "is_word", 33), ("is_deed", "is_deed", 34), ("is_join", "is_join", 35), ("check_row", "check_row", 36), ("linked", "linked", 37), ("deed_done", "deed_done", 38), ("run", "run", 39)]
def tab2 : List (Str × Str × Nat) := [("is_many", "is_many", 41), ("are_rising", "are_rising", 42), ("are_wholes", "are_wholes", 43), ("is_set_of", "is_set_of", 44), ("are_joins", "are_joins", 45), ("are_two", "are_two", 46), ("other_end", "other_end", 47), ("road_goes", "road_goes", 48), ("parts_two", "parts_two", 49), ("is_shut", "is_shut", 50), ("is_row_of_two", "is_row_of_two", 52), ("takes_one", "takes_one", 53)]
def tab3 : List (Str × Str × Nat) := [("is_apart", "is_apart", 54), ("takes_apart", "takes_apart", 55), ("takes_first", "takes_first", 56), ("takes_steps", "takes_steps", 57), ("reached", "reached", 58), ("are_apart_roads", "are_apart_roads", 59), ("takes_strikes", "takes_strikes", 60), ("are_join_and_ups", "are_join_and_ups", 62), ("takes_comes", "takes_comes", 63), ("children_of_checkshapes", "children_of", 64), ("size_below", "size_below", 66), ("steps_below_checkshapes", "steps_below", 67)]
def tab4 : List (Str × Str × Nat) := [("can_be", "can_be", 69), ("takes_never", "takes_never", 70), ("is_rest", "is_rest", 73), ("is_telling", "is_telling", 74), ("are_tellings", "are_tellings", 75), ("is_nought", "is_nought", 76), ("is_road", "is_road", 77), ("road_end", "road_end", 78), ("takes_differ", "takes_differ", 79), ("takes_fit", "takes_fit", 80), ("takes_clash", "takes_clash", 81), ("are_lots", "are_lots", 83)]
def tab5 : List (Str × Str × Nat) := [("are_two_lots", "are_two_lots", 84), ("are_beside", "are_beside", 85), ("takes_together", "takes_together", 86), ("takes_not_together", "takes_not_together", 87), ("is_tie", "is_tie", 88), ("road_by", "road_by", 89), ("takes_forest", "takes_forest", 90), ("is_opened_board", "is_opened_board", 91), ("is_line", "is_line", 92), ("is_open_road", "is_open_road", 93), ("is_wall", "is_wall", 94), ("takes_through", "takes_through", 95)]
def tab6 : List (Str × Str × Nat) := [("takes_shut", "takes_shut", 96), ("holds", "holds", 99), ("beside", "beside", 102), ("led_from", "led_from", 103), ("check_sides", "check_sides", 105), ("around", "around", 106), ("way_through", "way_through", 107), ("open_road", "open_road", 108), ("wall", "wall", 109), ("seeps", "seeps", 110), ("children_of", "children_of", 112), ("children_of_shapes", "children_of", 112)]
def tab7 : List (Str × Str × Nat) := [("sizes_of", "sizes_of", 114), ("steps_below", "steps_below", 115), ("steps_below_shapes", "steps_below", 115), ("fits_by_size", "fits_by_size", 117), ("can_have", "can_have", 118), ("joins_of", "joins_of", 119), ("can_come", "can_come", 120), ("paper_seeps", "paper_seeps", 122), ("_law_cell", "_law_cell", 124), ("_law_numbers", "_law_numbers", 125), ("_law_forest", "_law_forest", 126), ("_law_joins", "_law_joins", 127)]
def tab8 : List (Str × Str × Nat) := [("_law_lots_by", "_law_lots_by", 128), ("_law_way", "_law_way", 129), ("_law_find", "_law_find", 130), ("_law_new", "_law_new", 131), ("_law_linked", "_law_linked", 132), ("_law_deed", "_law_deed", 133), ("_law_run", "_law_run", 134), ("_law_rows_of", "_law_rows_of", 135), ("_law_sets_of", "_law_sets_of", 136), ("_law_two_right", "_law_two_right", 137), ("_law_shape_right", "_law_shape_right", 138), ("_law_tellings_right", "_law_tellings_right", 139)]
def tab9 : List (Str × Str × Nat) := [("_law_lots_right", "_law_lots_right", 140), ("_law_board_right", "_law_board_right", 141), ("law", "law", 142)]
def tab : List (Str × Str × Nat) := tab0 ++ tab1 ++ tab2 ++ tab3 ++ tab4 ++ tab5 ++ tab6 ++ tab7 ++ tab8 ++ tab9
def kt : List (Str × Str × Int) := [("one", "takes_one", 4), ("apart", "takes_apart", 4), ("first", "takes_first", 5), ("comes", "takes_comes", 2), ("never", "takes_never", 2), ("fit", "takes_fit", 3), ("clash", "takes_clash", 3), ("together", "takes_together", 5), ("not together", "takes_not_together", 5), ("through", "takes_through", 4), ("shut", "takes_shut", 3)]
def strs_SHORTS : List Str := ["none", "whole", "halves", "splits", "one"]
def strs_JOINS : List Str := ["size", "rank", "told", "names"]
def nm0 : List PySem.Str := ["LotError", "NoForest", "NoShort", "NoMany", "NoJoin", "NoDeed", "NoBoard", "MOST_THINGS_forests", "is_thing", "ends_at", "is_forest", "check_forest"]
def nm1 : List PySem.Str := ["SHORTS", "is_short", "check_short", "gone_through", "put_up", "walked_whole", "walked_by_parts", "walked", "MOST_THINGS_stores", "JOINS", "is_whole", "check_many"]
def nm2 : List PySem.Str := ["is_join_word", "check_join", "new_store", "is_thing_of", "is_word", "is_deed", "is_join", "check_row", "linked", "deed_done", "run", "is_many"]
def nm3 : List PySem.Str := ["are_rising", "are_wholes", "is_set_of", "are_joins", "are_two", "other_end", "road_goes", "parts_two", "is_shut", "is_row_of_two", "takes_one", "is_apart"]
def nm4 : List PySem.Str := ["takes_apart", "takes_first", "takes_steps", "reached", "are_apart_roads", "takes_strikes", "are_join_and_ups", "takes_comes", "children_of", "children_of_checkshapes", "size_below", "steps_below"]
def nm5 : List PySem.Str := ["steps_below_checkshapes", "can_be", "takes_never", "MOST_REST", "is_rest", "is_telling", "are_tellings", "is_nought", "is_road", "road_end", "takes_differ", "takes_fit"]
def nm6 : List PySem.Str := ["takes_clash", "are_lots", "are_two_lots", "are_beside", "takes_together", "takes_not_together", "is_tie", "road_by", "takes_forest", "is_opened_board", "is_line", "is_open_road"]
def nm7 : List PySem.Str := ["is_wall", "takes_through", "takes_shut", "KINDS", "holds", "MOST_SPOTS", "beside", "led_from", "check_sides", "around", "way_through", "open_road"]
def nm8 : List PySem.Str := ["wall", "seeps", "children_of_shapes", "sizes_of", "steps_below_shapes", "fits_by_size", "can_have", "joins_of", "can_come", "paper_seeps", "_law_cell", "_law_numbers"]
def nm9 : List PySem.Str := ["_law_forest", "_law_joins", "_law_lots_by", "_law_way", "_law_find", "_law_new", "_law_linked", "_law_deed", "_law_run", "_law_rows_of", "_law_sets_of", "_law_two_right"]
def nm10 : List PySem.Str := ["_law_shape_right", "_law_tellings_right", "_law_lots_right", "_law_board_right"]
def nm : List PySem.Str := nm0 ++ nm1 ++ nm2 ++ nm3 ++ nm4 ++ nm5 ++ nm6 ++ nm7 ++ nm8 ++ nm9 ++ nm10
def hfn : List He.DefD := tab.map fun p => ⟨(p.1, none), p.2.1, p.2.1, defArgs (topS p.2.2), defBody (topS p.2.2), defScope (topS p.2.2), [], []⟩
def hgl : List Str := ["KINDS", "SHORTS", "JOINS"]
def hint : List (Str × Int) := [("MOST_THINGS_forests", 40), ("MOST_THINGS_stores", 40), ("MOST_REST", 1000), ("MOST_SPOTS", 40)]
def hfa : List He.Fa := (tab.map fun p => He.Fa.glo p.1) ++ ((hgl.map He.Fa.glo) ++ ((blts.map He.Fa.free) ++ hint.map fun p => He.Fa.int p.1 p.2))
def kall1 : List Str := ["one", "apart", "first", "comes", "never", "steps", "strikes", "differ"]
def kall2 : List Str := ["fit", "clash", "together", "not together", "forest", "through", "shut"]
def hts : List He.Tab := [(fun K => He.ga K "KINDS", kall1 ++ kall2)]
def htf : List He.Defn := [("run", none), ("open_road", none), ("wall", none), ("seeps", none)]
def tupA (K : PySem.W.Frag) (a : Addr) (vs : List V) : Bool := match K.lookup a with
  | some o => (match o.data with
    | .seq its _ => decide (its.size ≤ 1000) && He.relAll vs its.toList
    | _ => false) && (match o.cls with
    | .type c => decide (c = "tuple")
    | _ => false)
  | none => false
def noLst (K : PySem.W.Frag) : Bool := K.all fun q => match q.2.cls with
  | .type c => !decide (c = "list")
  | _ => true
def kindB (K : PySem.W.Frag) (p : Str × Str × Int) : Bool := match PySem.W.nsIn K (He.ga K "KINDS") p.1 with
  | some (some (.ref tp)) => tupA K tp [.ref (He.ga K p.2.1), .int p.2.2]
  | _ => false
def tabA (K : PySem.W.Frag) : List Addr := htf.map fun p => (He.cT K p).2
def hex (K : PySem.W.Frag) : Bool := noLst K && (tupA K (He.ga K "SHORTS") (strs_SHORTS.map V.str) && (tupA K (He.ga K "JOINS") (strs_JOINS.map V.str) && (kt.all (kindB K) && decide (tabA K).Nodup)))
abbrev hR : PySem.W.OpenRow := PySem.W.OpenLaw.row PySem.Challenge.rw_lotheads_k77_whole_never_both
abbrev hhk : PySem.W.Hook := He.hookX 2 hfa hfn hts htf hex
def hob (s : PySem.W.SharedT) : He.AlX := He.obsX 2 hfa hfn hts htf hex (HandSHeadRun.getT s)
theorem hob_eq (s : PySem.W.SharedT) : hob s = hhk.obs s.abs := He.obsX_eq (HandSHeadRun.getT_eq s)
end Qd
end
section
set_option Elab.async false
set_option linter.all false
set_option autoImplicit false
set_option maxRecDepth 100000
set_option maxHeartbeats 0
/-! H1: the top's run, by its parts. -/
namespace Qd
open PySem
open PySem.W
open PySem.Calls
open HandSHeadRun
abbrev hq : Program := PySem.W.view hR.prog [142]
abbrev w0 (w : World) : World := w.withFollow "special-get-raises" false
abbrev w1 (w : World) : World := w.withFollow "special-get-raises" true
theorem run_a0 (w : World) (os : OsState) : (endF (stepQ (denQ tabQ) hR.prog (w0 w)) 6000 hR.prog (w0 w) os).map (fun s => looksF hR.prog (boot_heap (w0 w).params) s.abs) = some true := by kernel_rfl
theorem run_a1 (w : World) (os : OsState) : (endF (stepQ (denQ tabQ) hR.prog (w1 w)) 6000 hR.prog (w1 w) os).map (fun s => looksF hR.prog (boot_heap (w1 w).params) s.abs) = some true := by kernel_rfl
theorem run_b0 (w : World) (os : OsState) : (endF (stepQ (denQ tabQ) hR.prog (w0 w)) 6000 hR.prog (w0 w) os).map (fun s => seenQ hq nm (importedModules hR.prog.main.body) (fun s => xlAt hq [] s && recOk hR.toRowW.records s) s.abs) = some (openGood hq nm) := by kernel_rfl
theorem run_b1 (w : World) (os : OsState) : (endF (stepQ (denQ tabQ) hR.prog (w1 w)) 6000 hR.prog (w1 w) os).map (fun s => seenQ hq nm (importedModules hR.prog.main.body) (fun s => xlAt hq [] s && recOk hR.toRowW.records s) s.abs) = some (openGood hq nm) := by kernel_rfl
end Qd
end
section
set_option Elab.async false
set_option linter.all false
set_option autoImplicit false
set_option maxRecDepth 100000
set_option maxHeartbeats 0
/-! H2: what the Hook sees behind the top's run. -/
namespace Qd
open PySem
open PySem.W
open PySem.Calls
open HandSHeadRun
theorem run_c0 (w : World) (os : OsState) : (endF (stepQ (denQ tabQ) hR.prog (w0 w)) 6000 hR.prog (w0 w) os).map (fun s => hob s) = some (hhk.val (w0 w)) := by kernel_rfl
theorem run_c1 (w : World) (os : OsState) : (endF (stepQ (denQ tabQ) hR.prog (w1 w)) 6000 hR.prog (w1 w) os).map (fun s => hob s) = some (hhk.val (w1 w)) := by kernel_rfl
theorem map3 {α β γ δ : Type} {o : Option α} {f : α → β} {g : α → γ} {h : α → δ} {x : β} {y : γ} {z : δ} (h1 : o.map f = some x) (h2 : o.map g = some y) (h3 : o.map h = some z) : o.map (fun s => (f s, g s, h s)) = some (x, y, z) := by
  cases o with
  | none => cases h1
  | some a =>
    cases h1
    cases h2
    cases h3
    rfl
theorem hrun (w : World) : RunEq hR (view hR.prog [142]) hhk hob 6000 nm w :=
  byRow2 "special-get-raises" (P := fun w => RunEq hR (view hR.prog [142]) hhk hob 6000 nm w) (fun w os => map3 (run_a0 w os) (run_b0 w os) (run_c0 w os)) (fun w os => map3 (run_a1 w os) (run_b1 w os) (run_c1 w os)) w
end Qd
end
section
set_option Elab.async false
set_option linter.all false
set_option maxRecDepth 100000
set_option maxHeartbeats 2000000
/-! Q0: values as data, the heap hidden: what stands for what, and how the heaps grow. -/
namespace Qd
open PySem
open PySem.Spec
open PyProof.Rows
open L2
open LamX (ExtN Tabs TabS)

abbrev D := PyData

/-- scalars: what a dict of ours holds -/
def scl : V → Bool
  | .non => true
  | .bl _ => true
  | .int _ => true
  | .str _ => true
  | _ => false
def vD : V → D
  | .non => .none
  | .bl b => .bool b
  | .int i => .int i
  | .str s => .str s
  | _ => .none
def kD : Key → D
  | .inl i => .int i
  | .inr s => .str s
def encK (kv : List (Key × V)) : List (D × D) := kv.map fun q => (kD q.1, vD q.2)

mutual
/-- in the heap H the value v stands for the datum d -/
inductive Rp (K : PySem.W.Frag) (H : Hp) : V → PyData → Prop
  | non : Rp K H .non .none
  | bl (b : Bool) : Rp K H (.bl b) (.bool b)
  | int (i : Int) : Rp K H (.int i) (.int i)
  | str (x : Str) : Rp K H (.str x) (.str x)
  | lst {a : Addr} {xs : List V} {ds : List PyData} : Rd H a (.lst xs) → RpL K H xs ds → Rp K H (.ref a) (.list ds)
  | tup {a : Addr} {xs : List V} {ds : List PyData} : H a = some (.tup xs) → RpL K H xs ds → Rp K H (.ref a) (.tuple ds)
  | dic {a : Addr} {kv : List (Key × V)} : H a = some (.dK kv) → (∀ q ∈ kv, scl q.2 = true) → Rp K H (.ref a) (.dict (encK kv))
inductive RpL (K : PySem.W.Frag) (H : Hp) : List V → List PyData → Prop
  | nil : RpL K H [] []
  | cons {v : V} {vs : List V} {d : PyData} {ds : List PyData} : Rp K H v d → RpL K H vs ds → RpL K H (v :: vs) (d :: ds)
end

theorem rd_mono {H H' : Hp} {a : Addr} {u : HO} (e : Same H H') (h : Rd H a u) : Rd H' a u := by
  rcases h with h | ⟨o, h⟩
  · exact .inl (e _ _ h)
  · exact .inr ⟨o, e _ _ h⟩
theorem sqT_mono {K : PySem.W.Frag} {H H' : Hp} {a : Addr} {xs : List V} (e : Same H H') (h : SqT K H a xs) : SqT K H' a xs := by
  rcases h with h | h
  · exact .inl (rd_mono e h)
  · exact .inr h
mutual
theorem Rp.mono {K : PySem.W.Frag} {H H' : Hp} (e : Same H H') : ∀ {d : PyData} {v : V}, Rp K H v d → Rp K H' v d
  | _, _, .non => .non
  | _, _, .bl b => .bl b
  | _, _, .int i => .int i
  | _, _, .str x => .str x
  | _, _, .lst h hs => .lst (rd_mono e h) (RpL.mono e hs)
  | _, _, .tup h hs => .tup (e _ _ h) (RpL.mono e hs)
  | _, _, .dic h hs => .dic (e _ _ h) hs
theorem RpL.mono {K : PySem.W.Frag} {H H' : Hp} (e : Same H H') : ∀ {ds : List PyData} {vs : List V}, RpL K H vs ds → RpL K H' vs ds
  | _, _, .nil => .nil
  | _, _, .cons h hs => .cons (Rp.mono e h) (RpL.mono e hs)
end

theorem RpL.length {K : PySem.W.Frag} {H : Hp} : ∀ {vs : List V} {ds : List D}, RpL K H vs ds → vs.length = ds.length
  | _, _, .nil => rfl
  | _, _, .cons _ t => congrArg (· + 1) (RpL.length t)
theorem RpL.get {K : PySem.W.Frag} {H : Hp} : ∀ {vs : List V} {ds : List D} {i : Nat} {d : D}, RpL K H vs ds → ds[i]? = some d → ∃ v, vs[i]? = some v ∧ Rp K H v d
  | _, _, _, _, .nil, e => by simp at e
  | _, _, 0, _, .cons h _, e => by
    simp at e
    subst e
    exact ⟨_, rfl, h⟩
  | _, _, i + 1, d, .cons _ t, e => by
    obtain ⟨v, h1, h2⟩ := RpL.get (i := i) (d := d) t (by simpa using e)
    exact ⟨v, by simpa using h1, h2⟩
theorem RpL.getV {K : PySem.W.Frag} {H : Hp} : ∀ {vs : List V} {ds : List D} {i : Nat} {v : V}, RpL K H vs ds → vs[i]? = some v → ∃ d, ds[i]? = some d ∧ Rp K H v d
  | _, _, _, _, .nil, e => by simp at e
  | _, _, 0, _, .cons h _, e => by
    simp at e
    subst e
    exact ⟨_, rfl, h⟩
  | _, _, i + 1, v, .cons _ t, e => by
    obtain ⟨d, h1, h2⟩ := RpL.getV (i := i) (v := v) t (by simpa using e)
    exact ⟨d, by simpa using h1, h2⟩
theorem RpL.app {K : PySem.W.Frag} {H : Hp} : ∀ {vs ws : List V} {ds es : List D}, RpL K H vs ds → RpL K H ws es → RpL K H (vs ++ ws) (ds ++ es)
  | _, _, _, _, .nil, r => r
  | _, _, _, _, .cons h t, r => .cons h (RpL.app t r)
theorem RpL.take {K : PySem.W.Frag} {H : Hp} : ∀ {vs : List V} {ds : List D} (n : Nat), RpL K H vs ds → RpL K H (vs.take n) (ds.take n)
  | _, _, 0, _ => .nil
  | _, _, _ + 1, .nil => .nil
  | _, _, n + 1, .cons h t => .cons h (RpL.take n t)
theorem RpL.drop {K : PySem.W.Frag} {H : Hp} : ∀ {vs : List V} {ds : List D} (n : Nat), RpL K H vs ds → RpL K H (vs.drop n) (ds.drop n)
  | _, _, 0, r => r
  | _, _, _ + 1, .nil => .nil
  | _, _, n + 1, .cons _ t => RpL.drop n t
theorem RpL.set {K : PySem.W.Frag} {H : Hp} {v : V} {d : D} (r : Rp K H v d) : ∀ {vs : List V} {ds : List D} (n : Nat), RpL K H vs ds → RpL K H (vs.set n v) (ds.set n d)
  | _, _, _, .nil => .nil
  | _, _, 0, .cons _ t => .cons r t
  | _, _, n + 1, .cons h t => .cons h (RpL.set r n t)
theorem RpL.rev {K : PySem.W.Frag} {H : Hp} : ∀ {vs : List V} {ds : List D}, RpL K H vs ds → RpL K H vs.reverse ds.reverse
  | _, _, .nil => .nil
  | _, _, .cons h t => by
    rw [List.reverse_cons, List.reverse_cons]
    exact RpL.app (RpL.rev t) (.cons h .nil)
theorem RpL.rep {K : PySem.W.Frag} {H : Hp} {vs : List V} {ds : List D} (r : RpL K H vs ds) : ∀ n : Nat, RpL K H (List.replicate n vs).flatten (List.replicate n ds).flatten
  | 0 => .nil
  | n + 1 => by
    rw [List.replicate_succ, List.replicate_succ, List.flatten_cons, List.flatten_cons]
    exact RpL.app r (RpL.rep r n)
/-- ints -/
theorem RpL.ints {K : PySem.W.Frag} {H : Hp} : ∀ {ns : List Int} {vs : List V}, RpL K H vs (ns.map PyData.int) → vs = ns.map V.int
  | [], _, h => by
    cases h
    rfl
  | n :: ns, _, h => by
    cases h with
    | cons h t =>
      cases h
      rw [RpL.ints t]
      rfl
theorem RpL.bools {K : PySem.W.Frag} {H : Hp} : ∀ {ns : List Bool} {vs : List V}, RpL K H vs (ns.map PyData.bool) → vs = ns.map V.bl
  | [], _, h => by
    cases h
    rfl
  | n :: ns, _, h => by
    cases h with
    | cons h t =>
      cases h
      rw [RpL.bools t]
      rfl
theorem rpL_ints {K : PySem.W.Frag} {H : Hp} : ∀ ns : List Int, RpL K H (ns.map V.int) (ns.map PyData.int)
  | [] => .nil
  | n :: ns => .cons (.int n) (rpL_ints ns)

/-! ### data without dicts: == -/
mutual
theorem Rp.dp {K : PySem.W.Frag} {H : Hp} : ∀ {d : PyData} {v : V}, d.canLay0 = true → Rp K H v d → Dp K H v d
  | _, _, _, .non => .non
  | _, _, _, .bl b => .bl b
  | _, _, _, .int i => .int i
  | _, _, _, .str x => .str x
  | _, _, c, .lst h hs => .lst (.inl h) (RpL.dp (by simpa [PyData.canLay0] using c) hs)
  | _, _, c, .tup h hs => .tup (SqT.of h) (RpL.dp (by simpa [PyData.canLay0] using c) hs)
  | _, _, c, .dic h hs => by simp [PyData.canLay0] at c
theorem RpL.dp {K : PySem.W.Frag} {H : Hp} : ∀ {ds : List PyData} {vs : List V}, PyData.canLayAll0 ds = true → RpL K H vs ds → DpAll K H vs ds
  | _, _, _, .nil => .nil
  | d :: ds, _, c, .cons h hs => by
    have c' : d.canLay0 = true ∧ PyData.canLayAll0 ds = true := by simpa [PyData.canLayAll0] using c
    exact .cons (Rp.dp c'.1 h) (RpL.dp c'.2 hs)
end

/-! ### immutable data: tuples and scalars; they do not lean on lists and dicts -/
mutual
def imm : D → Bool
  | .tuple ds => immL ds
  | .list _ => false
  | .dict _ => false
  | _ => true
def immL : List D → Bool
  | [] => true
  | d :: ds => imm d && immL ds
end
def isTF : HO → Bool
  | .tup _ => true
  | _ => false
/-- the tuples of H stand in H' -/
def TupsIn (H H' : Hp) : Prop := ∀ a o, H a = some o → isTF o = true → H' a = some o
mutual
theorem Rp.immut {K : PySem.W.Frag} {H H' : Hp} (e : TupsIn H H') : ∀ {d : PyData} {v : V}, imm d = true → Rp K H v d → Rp K H' v d
  | _, _, _, .non => .non
  | _, _, _, .bl b => .bl b
  | _, _, _, .int i => .int i
  | _, _, _, .str x => .str x
  | _, _, c, .lst h hs => by simp [imm] at c
  | _, _, c, .tup h hs => .tup (e _ _ h rfl) (RpL.immut e (by simpa [imm] using c) hs)
  | _, _, c, .dic h hs => by simp [imm] at c
theorem RpL.immut {K : PySem.W.Frag} {H H' : Hp} (e : TupsIn H H') : ∀ {ds : List PyData} {vs : List V}, immL ds = true → RpL K H vs ds → RpL K H' vs ds
  | _, _, _, .nil => .nil
  | d :: ds, _, c, .cons h hs => by
    have c' : imm d = true ∧ immL ds = true := by simpa [immL] using c
    exact .cons (Rp.immut e c'.1 h) (RpL.immut e c'.2 hs)
end

/-! ### how heaps grow -/
/-- HF: what is known to stand for data (never written); H: all. From (HF0, H0) to (HF, H) -/
structure Fz (T : List (Addr × Str)) (H0 HF0 HF H : Hp) : Prop where
  sub : Same HF H
  ext : ExtN H0 H
  dom : ∀ a, H a = none → H0 a = none
  fro : Same HF0 HF
  new : ∀ a o, HF a = some o → HF0 a = none → H0 a = none
  tab : Tabs T H
  nt : ∀ a ps, HF a ≠ some (.tbl ps)
theorem Same.ext {H H' : Hp} (e : Same H H') : ExtN H H' := fun b o h _ => e b o h
theorem upd_sameN {H : Hp} {p : Addr} {o : HO} (hp : H p = none) : Same H (L2.upd H p o) := fun b u e => by
  rw [upd_ne (ne_of_none e hp)]
  exact e
theorem upd_none {H : Hp} {p a : Addr} {o : HO} (h : L2.upd H p o a = none) : a ≠ p ∧ H a = none := by
  by_cases e : a = p
  · subst e
    rw [upd_same] at h
    cases h
  · rw [upd_ne e] at h
    exact ⟨e, h⟩
theorem Fz.refl {T : List (Addr × Str)} {HF H : Hp} (s : Same HF H) (t : Tabs T H) (nt : ∀ a ps, HF a ≠ some (.tbl ps)) : Fz T H HF HF H :=
  ⟨s, ExtN.refl H, fun _ h => h, Same.refl HF, fun a o h n => (by rw [h] at n; cases n), t, nt⟩
theorem Fz.trans {T : List (Addr × Str)} {H0 HF0 HF H HF' H' : Hp} (a : Fz T H0 HF0 HF H) (b : Fz T H HF HF' H') : Fz T H0 HF0 HF' H' :=
  ⟨b.sub, a.ext.trans b.ext, fun x h => a.dom x (b.dom x h), a.fro.trans b.fro, fun x o h n => by
    cases q : HF x with
    | none => exact a.dom x (b.new x o h q)
    | some u => exact a.new x u q n, b.tab, b.nt⟩
/-- a new object is laid and known to stand -/
theorem Fz.laid {T : List (Addr × Str)} {HF H : Hp} {p : Addr} {o : HO} (s : Same HF H) (t : Tabs T H) (nt : ∀ a ps, HF a ≠ some (.tbl ps)) (hp : H p = none) (ho : ∀ ps, o ≠ .tbl ps) : Fz T H HF (upd HF p o) (upd H p o) := by
  have hf : HF p = none := Same.free s hp
  refine ⟨fun b u e => ?_, Same.ext (upd_sameN hp), fun b h => (upd_none h).2, upd_sameN hf, fun b u e n => ?_, t.ext (upd_sameN hp), fun b ps e => ?_⟩
  · by_cases hb : b = p
    · subst hb
      rw [upd_same] at e ⊢
      exact e
    · rw [upd_ne hb] at e ⊢
      exact s b u e
  · by_cases hb : b = p
    · subst hb
      exact hp
    · rw [upd_ne hb] at e
      rw [e] at n
      cases n
  · by_cases hb : b = p
    · subst hb
      rw [upd_same] at e
      exact ho ps (Option.some.inj e)
    · rw [upd_ne hb] at e
      exact nt b ps e
/-- a new object is laid, not known -/
theorem Fz.laidO {T : List (Addr × Str)} {HF H : Hp} {p : Addr} {o : HO} (s : Same HF H) (t : Tabs T H) (nt : ∀ a ps, HF a ≠ some (.tbl ps)) (hp : H p = none) : Fz T H HF HF (upd H p o) :=
  ⟨s.trans (upd_sameN hp), Same.ext (upd_sameN hp), fun b h => (upd_none h).2, Same.refl HF, fun b u e n => (by rw [e] at n; cases n), t.ext (upd_sameN hp), nt⟩
/-- an own object becomes known -/
theorem Fz.known {T : List (Addr × Str)} {H0 HF0 HF H : Hp} {p : Addr} {o : HO} (f : Fz T H0 HF0 HF H) (hf : HF p = none) (hp : H p = some o) (l : H0 p = none) (ho : ∀ ps, o ≠ .tbl ps) : Fz T H0 HF0 (upd HF p o) H := by
  refine ⟨fun b u e => ?_, f.ext, f.dom, f.fro.trans (upd_sameN hf), fun b u e n => ?_, f.tab, fun b ps e => ?_⟩
  · by_cases hb : b = p
    · subst hb
      rw [upd_same] at e
      rw [hp]
      exact e
    · rw [upd_ne hb] at e
      exact f.sub b u e
  · by_cases hb : b = p
    · subst hb
      exact l
    · rw [upd_ne hb] at e
      exact f.new b u e n
  · by_cases hb : b = p
    · subst hb
      rw [upd_same] at e
      exact ho ps (Option.some.inj e)
    · rw [upd_ne hb] at e
      exact f.nt b ps e
theorem Tabs.upd {T : List (Addr × Str)} {H : Hp} {p : Addr} {o u : HO} (t : Tabs T H) (hp : H p = some u) (h1 : ∀ ps, u ≠ .tbl ps) (h2 : ∀ phi, u ≠ .ext phi) : Tabs T (L2.upd H p o) := fun x hx => by
  obtain ⟨ps, a1, a2, a3⟩ := t x hx
  refine ⟨ps, ?_, a2, fun pos cv hc => ?_⟩
  · rw [upd_ne (fun z => h1 ps (by rw [← z, a1] at hp; exact (Option.some.inj hp).symm))]
    exact a1
  · obtain ⟨c, e1, e2⟩ := a3 pos cv hc
    refine ⟨c, e1, ?_⟩
    rw [upd_ne (fun z => h2 _ (by rw [← z, e2] at hp; exact (Option.some.inj hp).symm))]
    exact e2
/-- an own object is written -/
theorem Fz.write {T : List (Addr × Str)} {H0 HF0 HF H : Hp} {p : Addr} {u o : HO} (f : Fz T H0 HF0 HF H) (hf : HF p = none) (hp : H p = some u) (l : H0 p = none) (h1 : ∀ ps, u ≠ .tbl ps) (h2 : ∀ phi, u ≠ .ext phi) : Fz T H0 HF0 HF (L2.upd H p o) :=
  ⟨fun b v e => by rw [upd_ne (ne_of_none e hf)]; exact f.sub b v e, fun b v e n => by
    by_cases hb : b = p
    · subst hb
      rw [l] at e
      cases e
    · rw [upd_ne hb]
      exact f.ext b v e n, fun b h => by
    by_cases hb : b = p
    · subst hb
      exact l
    · rw [upd_ne hb] at h
      exact f.dom b h, f.fro, f.new, Tabs.upd f.tab hp h1 h2, f.nt⟩
end Qd
end
section
set_option Elab.async false
set_option linter.all false
set_option maxRecDepth 100000
set_option maxHeartbeats 2000000
/-! Q1: the names' data, judgements (DE, DT, DA, DG, DI, DS), and the rules of the plain constructs. -/
namespace Qd
open PySem
open PySem.Spec
open PyProof.Rows
open L2
open LamX (ExtN Tabs TabS)

abbrev Sg := L2.St
/-- the world of a text: what all its defs have in common -/
structure Wd where
  prog : Program
  w : World
  K : PySem.W.Frag
  mg : Str → Option Value
  base : Heap
  T : List (Addr × Str)
  kf : Nat
abbrev wdOf (X : Cx) (T : List (Addr × Str)) (kf : Nat) : Wd := ⟨X.prog, X.w, X.K, X.mg, X.base, T, kf⟩
def NT (HF : Hp) : Prop := ∀ a ps, HF a ≠ some (.tbl ps)
structure Gd (W : Wd) (HF H : Hp) : Prop where
  sub : Same HF H
  tab : Tabs W.T H
  nt : NT HF
theorem Fz.gd {W : Wd} {H0 HF0 HF H : Hp} (f : Fz W.T H0 HF0 HF H) : Gd W HF H := ⟨f.sub, f.tab, f.nt⟩
theorem Gd.fz {W : Wd} {HF H : Hp} (g : Gd W HF H) : Fz W.T H HF HF H := Fz.refl g.sub g.tab g.nt
theorem Gd.laid {W : Wd} {HF H : Hp} {p : Addr} {o : HO} (g : Gd W HF H) (hp : H p = none) (ho : ∀ ps, o ≠ .tbl ps) : Fz W.T H HF (upd HF p o) (upd H p o) := Fz.laid g.sub g.tab g.nt hp ho


/-- a function object stands at f, seen and never changed -/
def FnH (H : Hp) (f : Addr) : Prop := ∃ o u, H f = some (.frz o u) ∧ ∀ h : Heap, h.get? f = some o → PySem.W.FnAt f h
theorem FnH.mono {H H' : Hp} {f : Addr} (e : Same H H') (h : FnH H f) : FnH H' f := by
  obtain ⟨o, u, h1, h2⟩ := h
  exact ⟨o, u, e _ _ h1, h2⟩
/-- the value v is a function that answers G, wherever HF stands -/
def FnIs (W : Wd) (HF : Hp) (v : V) (G : List D → Option D) : Prop :=
  ∃ f : Addr, v = .ref f ∧ FnH HF f ∧
    ∀ (A : Around) (outer : List PySem.Env) (s : Shared) (H HF' : Hp) (us : List Value) (vs : List V) (ds : List D) (d : D) (Q : VK), Room W.kf A → Env0 W.prog W.w W.K W.mg W.base A outer s H →
      Same HF HF' → Gd W HF' H → Vals vs us → RpL W.K HF' vs ds → G ds = some d → (∀ v' H' HF2, Fz W.T H HF' HF2 H' → Rp W.K HF2 v' d → Q v' H') →
      codeAny (model W.prog W.w) A (.call (.ref f) ⟨us, []⟩) (CR CX0 outer W.prog W.w H s Q E0) s
theorem FnIs.mono {W : Wd} {HF HF2 : Hp} {v : V} {G : List D → Option D} (e : Same HF HF2) (h : FnIs W HF v G) : FnIs W HF2 v G := by
  obtain ⟨f, h1, h2, h4⟩ := h
  exact ⟨f, h1, h2.mono e, fun A outer s H HF' us vs ds d Q r e0 e1 => h4 A outer s H HF' us vs ds d Q r e0 (e.trans e1)⟩

/-- what a name holds -/
inductive En where
  | dat (d : D)
  | own (ds : List D)
  | odi (kv : List (Key × V))
  | fn (G : List D → Option D)
def En.mut : En → Bool
  | .own _ => true
  | .odi _ => true
  | _ => false
abbrev Nv := List (Option En)
def EnOk (W : Wd) (H0 HF H : Hp) (v : V) : En → Prop
  | .dat d => Rp W.K HF v d
  | .own ds => ∃ a vs, v = .ref a ∧ HF a = none ∧ H0 a = none ∧ H a = some (.lst vs) ∧ RpL W.K HF vs ds
  | .odi kv => ∃ a, v = .ref a ∧ HF a = none ∧ H0 a = none ∧ H a = some (.dK kv) ∧ ∀ q ∈ kv, scl q.2 = true
  | .fn G => FnIs W HF v G
structure Rel (W : Wd) (H0 HF0 : Hp) (σ : Sg) (H HF : Hp) (ρ : Nv) : Prop where
  fz : Fz W.T H0 HF0 HF H
  len : ρ.length = σ.length
  at_ : ∀ (i : Nat) (e : En), ρ[i]? = some (some e) → ∃ v, σ[i]? = some (some v) ∧ EnOk W H0 HF H v e
  sep : ∀ (i j : Nat) (e e' : En) (a : Addr), i ≠ j → ρ[i]? = some (some e) → ρ[j]? = some (some e') → e.mut = true → e'.mut = true → σ[i]? = some (some (.ref a)) → σ[j]? ≠ some (some (.ref a))
section
variable {W : Wd} {H0 HF0 HF H HF' H' : Hp} {σ : Sg} {ρ : Nv}
theorem Rel.gd (r : Rel W H0 HF0 σ H HF ρ) : Gd W HF H := r.fz.gd
theorem fz_none {T : List (Addr × Str)} (f : Fz T H HF HF' H') {a : Addr} {o : HO} (h : HF a = none) (hH : H a = some o) (ho : ∀ ps, o ≠ .tbl ps) : HF' a = none := by
  cases q : HF' a with
  | none => rfl
  | some u =>
    rw [f.new a u q h] at hH
    cases hH
theorem EnOk.grow {e : En} {v : V} (f : Fz W.T H HF HF' H') (h : EnOk W H0 HF H v e) : EnOk W H0 HF' H' v e := by
  cases e with
  | dat d => exact Rp.mono f.fro h
  | own ds =>
    obtain ⟨a, vs, e1, e2, e3, e4, e5⟩ := h
    exact ⟨a, vs, e1, fz_none f e2 e4 (fun ps z => by cases z), e3, f.ext a _ e4 (fun ps z => by cases z), RpL.mono f.fro e5⟩
  | odi kv =>
    obtain ⟨a, e1, e2, e3, e4, e5⟩ := h
    exact ⟨a, e1, fz_none f e2 e4 (fun ps z => by cases z), e3, f.ext a _ e4 (fun ps z => by cases z), e5⟩
  | fn G => exact FnIs.mono f.fro h
theorem Rel.grow (r : Rel W H0 HF0 σ H HF ρ) (f : Fz W.T H HF HF' H') : Rel W H0 HF0 σ H' HF' ρ :=
  ⟨r.fz.trans f, r.len, fun i e h => by
    obtain ⟨v, h1, h2⟩ := r.at_ i e h
    exact ⟨v, h1, h2.grow f⟩, r.sep⟩
theorem set_some {α : Type} {l : List (Option α)} {i j : Nat} {x y : α} (h : (l.set i (some x))[j]? = some (some y)) : (i = j ∧ i < l.length ∧ x = y) ∨ (i ≠ j ∧ l[j]? = some (some y)) := by
  by_cases e : i = j
  · subst e
    by_cases hl : i < l.length
    · rw [List.getElem?_set_self hl] at h
      exact .inl ⟨rfl, hl, Option.some.inj (Option.some.inj h)⟩
    · rw [List.getElem?_eq_none (by simpa using hl)] at h
      cases h
  · rw [List.getElem?_set_ne e] at h
    exact .inr ⟨e, h⟩
theorem Rel.set (r : Rel W H0 HF0 σ H HF ρ) {i : Nat} {v : V} {e : En} (hv : EnOk W H0 HF H v e) (hm : e.mut = false) : Rel W H0 HF0 (σ.set i (some v)) H HF (ρ.set i (some e)) := by
  refine ⟨r.fz, by rw [List.length_set, List.length_set]; exact r.len, fun j e' h => ?_, fun j k e1 e2 a hjk h1 h2 m1 m2 => ?_⟩
  · rcases set_some h with ⟨rfl, hl, rfl⟩ | ⟨hn, h⟩
    · exact ⟨v, List.getElem?_set_self (by rw [← r.len]; exact hl), hv⟩
    · obtain ⟨v', h1, h2⟩ := r.at_ j e' h
      exact ⟨v', by rw [List.getElem?_set_ne hn]; exact h1, h2⟩
  · have ne : ∀ {x : Nat} {e' : En}, (ρ.set i (some e))[x]? = some (some e') → e'.mut = true → i ≠ x ∧ ρ[x]? = some (some e') := fun {x e'} q m => by
      rcases set_some q with ⟨_, _, rfl⟩ | q
      · rw [hm] at m
        cases m
      · exact q
    obtain ⟨n1, q1⟩ := ne h1 m1
    obtain ⟨n2, q2⟩ := ne h2 m2
    rw [List.getElem?_set_ne n1, List.getElem?_set_ne n2]
    exact r.sep j k e1 e2 a hjk q1 q2 m1 m2
/-- a new object for this def alone -/
theorem Rel.setOwn (r : Rel W H0 HF0 σ H HF ρ) {i : Nat} {a : Addr} {e : En} (hv : EnOk W H0 HF H (.ref a) e) (fresh : ∀ (j : Nat) (e' : En), ρ[j]? = some (some e') → e'.mut = true → σ[j]? ≠ some (some (.ref a))) : Rel W H0 HF0 (σ.set i (some (.ref a))) H HF (ρ.set i (some e)) := by
  refine ⟨r.fz, by rw [List.length_set, List.length_set]; exact r.len, fun j e' h => ?_, fun j k e1 e2 b hjk h1 h2 m1 m2 hb => ?_⟩
  · rcases set_some h with ⟨rfl, hl, rfl⟩ | ⟨hn, h⟩
    · exact ⟨.ref a, List.getElem?_set_self (by rw [← r.len]; exact hl), hv⟩
    · obtain ⟨v', h1, h2⟩ := r.at_ j e' h
      exact ⟨v', by rw [List.getElem?_set_ne hn]; exact h1, h2⟩
  · rcases set_some h1 with ⟨rfl, hl, rfl⟩ | ⟨n1, q1⟩
    · rcases set_some h2 with ⟨e0, _, _⟩ | ⟨n2, q2⟩
      · exact absurd e0 hjk
      · rw [List.getElem?_set_self (by rw [← r.len]; exact hl)] at hb
        cases hb
        rw [List.getElem?_set_ne n2]
        exact fresh k e2 q2 m2
    · rw [List.getElem?_set_ne n1] at hb
      rcases set_some h2 with ⟨rfl, hl, rfl⟩ | ⟨n2, q2⟩
      · rw [List.getElem?_set_self (by rw [← r.len]; exact hl)]
        intro z
        cases z
        exact fresh j e1 q1 m1 hb
      · rw [List.getElem?_set_ne n2]
        exact r.sep j k e1 e2 b hjk q1 q2 m1 m2 hb
/-- the own things' addresses are tracked -/
theorem Rel.ownAt (r : Rel W H0 HF0 σ H HF ρ) {j : Nat} {e : En} {a : Addr} (h : ρ[j]? = some (some e)) (m : e.mut = true) (hs : σ[j]? = some (some (.ref a))) : HF a = none ∧ H0 a = none ∧ ∃ o, H a = some o ∧ (∀ ps, o ≠ .tbl ps) ∧ ∀ phi, o ≠ .ext phi := by
  obtain ⟨v, h1, h2⟩ := r.at_ j e h
  rw [hs] at h1
  cases h1
  cases e with
  | dat d => cases m
  | fn G => cases m
  | own ds =>
    obtain ⟨b, vs, e1, e2, e3, e4, e5⟩ := h2
    cases e1
    exact ⟨e2, e3, _, e4, (fun ps z => by cases z), (fun ps z => by cases z)⟩
  | odi kv =>
    obtain ⟨b, e1, e2, e3, e4, e5⟩ := h2
    cases e1
    exact ⟨e2, e3, _, e4, (fun ps z => by cases z), (fun ps z => by cases z)⟩
/-- an own object is written anew -/
theorem Rel.write (r : Rel W H0 HF0 σ H HF ρ) {i : Nat} {e e' : En} {a : Addr} {o : HO} (h : ρ[i]? = some (some e)) (m : e.mut = true) (hs : σ[i]? = some (some (.ref a))) (hv : EnOk W H0 HF (upd H a o) (.ref a) e') (m' : e'.mut = true) : Rel W H0 HF0 σ (upd H a o) HF (ρ.set i (some e')) := by
  obtain ⟨n1, n2, u, hu, u1, u2⟩ := r.ownAt h m hs
  have f' : Fz W.T H0 HF0 HF (upd H a o) := r.fz.write n1 hu n2 u1 u2
  have keep : ∀ (j : Nat) (e2 : En), ρ[j]? = some (some e2) → j ≠ i → ∃ v, σ[j]? = some (some v) ∧ EnOk W H0 HF (upd H a o) v e2 := fun j e2 hj hn => by
    obtain ⟨v, h1, h2⟩ := r.at_ j e2 hj
    refine ⟨v, h1, ?_⟩
    cases e2 with
    | dat d => exact h2
    | fn G => exact h2
    | own ds =>
      obtain ⟨b, vs, e1, e2, e3, e4, e5⟩ := h2
      subst e1
      have nb : b ≠ a := fun z => by
        subst z
        exact r.sep j i _ _ b hn hj h rfl m h1 hs
      exact ⟨b, vs, rfl, e2, e3, by rw [upd_ne nb]; exact e4, e5⟩
    | odi kv =>
      obtain ⟨b, e1, e2, e3, e4, e5⟩ := h2
      subst e1
      have nb : b ≠ a := fun z => by
        subst z
        exact r.sep j i _ _ b hn hj h rfl m h1 hs
      exact ⟨b, rfl, e2, e3, by rw [upd_ne nb]; exact e4, e5⟩
  refine ⟨f', by rw [List.length_set]; exact r.len, fun j e2 hj => ?_, fun j k e1 e2 b hjk h1 h2 m1 m2 => ?_⟩
  · rcases set_some hj with ⟨rfl, hl, rfl⟩ | ⟨hn, hj⟩
    · exact ⟨.ref a, hs, hv⟩
    · exact keep j e2 hj (Ne.symm hn)
  · have old : ∀ {x : Nat} {ex : En}, (ρ.set i (some e'))[x]? = some (some ex) → ex.mut = true → ∃ ey : En, ρ[x]? = some (some ey) ∧ ey.mut = true := fun {x ex} q mx => by
      rcases set_some q with ⟨rfl, _, _⟩ | ⟨_, q⟩
      · exact ⟨e, h, m⟩
      · exact ⟨ex, q, mx⟩
    obtain ⟨y1, q1, w1⟩ := old h1 m1
    obtain ⟨y2, q2, w2⟩ := old h2 m2
    exact r.sep j k y1 y2 b hjk q1 q2 w1 w2
/-- an own list becomes plain data -/
theorem Rel.freeze (r : Rel W H0 HF0 σ H HF ρ) {i : Nat} {ds : List D} (h : ρ[i]? = some (some (.own ds))) : ∃ HF', Rel W H0 HF0 σ H HF' (ρ.set i (some (.dat (.list ds)))) ∧ Same HF HF' := by
  obtain ⟨v, h1, a, vs, e1, e2, e3, e4, e5⟩ := r.at_ i _ h
  subst e1
  have sF : Same HF (upd HF a (.lst vs)) := fun b u e => by rw [upd_ne (ne_of_none e e2)]; exact e
  have f' : Fz W.T H0 HF0 (upd HF a (.lst vs)) H := r.fz.known e2 e4 e3 (fun ps z => by cases z)
  refine ⟨upd HF a (.lst vs), ⟨f', by rw [List.length_set]; exact r.len, fun j e' hj => ?_, fun j k x1 x2 b hjk k1 k2 m1 m2 => ?_⟩, sF⟩
  · rcases set_some hj with ⟨rfl, hl, rfl⟩ | ⟨hn, hj⟩
    · exact ⟨.ref a, h1, .lst (.inl upd_same) (RpL.mono sF e5)⟩
    · obtain ⟨v', q1, q2⟩ := r.at_ j e' hj
      refine ⟨v', q1, ?_⟩
      cases e' with
      | dat d => exact Rp.mono sF q2
      | fn G => exact FnIs.mono sF q2
      | own ds' =>
        obtain ⟨b, ws, x1, x2, x3, x4, x5⟩ := q2
        subst x1
        have nb : b ≠ a := fun z => by
          subst z
          exact r.sep j i _ _ b (Ne.symm hn) hj h rfl rfl q1 h1
        exact ⟨b, ws, rfl, by rw [upd_ne nb]; exact x2, x3, x4, RpL.mono sF x5⟩
      | odi kv =>
        obtain ⟨b, x1, x2, x3, x4, x5⟩ := q2
        subst x1
        have nb : b ≠ a := fun z => by
          subst z
          exact r.sep j i _ _ b (Ne.symm hn) hj h rfl rfl q1 h1
        exact ⟨b, rfl, by rw [upd_ne nb]; exact x2, x3, x4, x5⟩
  · have old : ∀ {x : Nat} {ex : En}, (ρ.set i (some (En.dat (.list ds))))[x]? = some (some ex) → ex.mut = true → ρ[x]? = some (some ex) := fun {x ex} q mx => by
      rcases set_some q with ⟨_, _, rfl⟩ | ⟨_, q⟩
      · cases mx
      · exact q
    exact r.sep j k x1 x2 b hjk (old k1 m1) (old k2 m2) m1 m2
end

/-! ### the judgements -/
def DE (W : Wd) (t : TE) (f : Nv → Option D) : Prop := ∀ (H0 HF0 : Hp) (σ : Sg) (H HF : Hp) (ρ : Nv) (d : D) (Q : VK), Rel W H0 HF0 σ H HF ρ → f ρ = some d → (∀ v H' HF', Fz W.T H HF HF' H' → Rp W.K HF' v d → Q v H') → t σ H Q
def DT (W : Wd) (t : TT) (f : Nv → Option Bool) : Prop := ∀ (H0 HF0 : Hp) (σ : Sg) (H HF : Hp) (ρ : Nv) (b : Bool) (Q : Bool → Hp → Prop), Rel W H0 HF0 σ H HF ρ → f ρ = some b → (∀ H' HF', Fz W.T H HF HF' H' → Q b H') → t σ H Q
def DA (W : Wd) (t : TA) (f : Nv → Option (List D)) : Prop := ∀ (H0 HF0 : Hp) (σ : Sg) (H HF : Hp) (ρ : Nv) (ds : List D) (Q : List V → Hp → Prop), Rel W H0 HF0 σ H HF ρ → f ρ = some ds → (∀ vs H' HF', Fz W.T H HF HF' H' → RpL W.K HF' vs ds → Q vs H') → t σ H Q
/-- a new list, known to nobody -/
def DN (W : Wd) (t : TE) (f : Nv → Option (List D)) : Prop := ∀ (H0 HF0 : Hp) (σ : Sg) (H HF : Hp) (ρ : Nv) (ds : List D) (Q : VK), Rel W H0 HF0 σ H HF ρ → f ρ = some ds →
  (∀ p vs H' HF', Fz W.T H HF HF' H' → H p = none → HF' p = none → H' p = some (.lst vs) → RpL W.K HF' vs ds → Q (.ref p) H') → t σ H Q
def DG (W : Wd) (g : TG) (a : D → Nv → Option Nv) : Prop := ∀ (H0 HF0 : Hp) (σ : Sg) (H HF : Hp) (ρ ρ' : Nv) (v : V) (d : D) (Q : Sg → Hp → Prop), Rel W H0 HF0 σ H HF ρ → Rp W.K HF v d → a d ρ = some ρ' → (∀ σ', Rel W H0 HF0 σ' H HF ρ' → Q σ' H) → g v σ H Q
inductive Out where
  | nx (ρ : Nv)
  | rt (d : D)
  | bk (ρ : Nv)
  | ct (ρ : Nv)
def Post (W : Wd) (H0 HF0 HF : Hp) (Dn : Ends) : Out → Prop
  | .nx ρ => ∀ σ H' HF', Rel W H0 HF0 σ H' HF' ρ → Same HF HF' → Dn.nx σ H'
  | .rt d => ∀ v H' HF', Fz W.T H0 HF0 HF' H' → Rp W.K HF' v d → Dn.rt v H'
  | .bk ρ => ∀ σ H' HF', Rel W H0 HF0 σ H' HF' ρ → Same HF HF' → Dn.bk σ H'
  | .ct ρ => ∀ σ H' HF', Rel W H0 HF0 σ H' HF' ρ → Same HF HF' → Dn.ct σ H'
def DS (W : Wd) (t : TS) (g : Nv → Option Out) : Prop := ∀ (H0 HF0 : Hp) (σ : Sg) (H HF : Hp) (ρ : Nv) (o : Out) (Dn : Ends), Rel W H0 HF0 σ H HF ρ → g ρ = some o → Post W H0 HF0 HF Dn o → t Dn σ H
theorem DN.e {W : Wd} {t : TE} {f : Nv → Option (List D)} (h : DN W t f) : DE W t (fun ρ => (f ρ).map PyData.list) := by
  intro H0 HF0 σ H HF ρ d Q r e q
  obtain ⟨ds, e1, rfl⟩ := Option.map_eq_some_iff.mp e
  refine h H0 HF0 σ H HF ρ ds Q r e1 fun p vs H' HF' f' hp hf hH hr => ?_
  have sF : Same HF' (upd HF' p (.lst vs)) := fun b u z => by rw [upd_ne (ne_of_none z hf)]; exact z
  exact q _ H' (upd HF' p (.lst vs)) (f'.known hf hH hp (fun ps z => by cases z)) (.lst (.inl upd_same) (RpL.mono sF hr))

/-! ### names, constants -/
def gD (i : Nat) (ρ : Nv) : Option D := match ρ[i]? with
  | some (some (.dat d)) => some d
  | _ => none
theorem gD_eq {i : Nat} {ρ : Nv} {d : D} (h : gD i ρ = some d) : ρ[i]? = some (some (.dat d)) := by
  unfold gD at h
  split at h
  · rename_i d' e
    cases h
    exact e
  · cases h
section
variable {W : Wd}
theorem de_var (i : Nat) : DE W (tVar i) (gD i) := by
  intro H0 HF0 σ H HF ρ d Q r e q
  obtain ⟨v, h1, h2⟩ := r.at_ i _ (gD_eq e)
  exact ⟨v, h1, q v H HF r.gd.fz h2⟩
theorem de_int {i : Int} : DE W (tC (.int i)) (fun _ => some (.int i)) := fun H0 HF0 σ H HF ρ d Q r e q => by
  cases e
  exact q _ H HF r.gd.fz (.int i)
theorem de_bl {b : Bool} : DE W (tC (.bl b)) (fun _ => some (.bool b)) := fun H0 HF0 σ H HF ρ d Q r e q => by
  cases e
  exact q _ H HF r.gd.fz (.bl b)
theorem de_non : DE W (tC .non) (fun _ => some .none) := fun H0 HF0 σ H HF ρ d Q r e q => by
  cases e
  exact q _ H HF r.gd.fz .non
theorem de_str {x : Str} : DE W (tC (.str x)) (fun _ => some (.str x)) := fun H0 HF0 σ H HF ρ d Q r e q => by
  cases e
  exact q _ H HF r.gd.fz (.str x)
end

/-! ### operations by values -/
def RvD (W : Wd) (r : R2) (o : D → D → Option D) : Prop := ∀ (HF H : Hp) (x y : V) (dx dy dz : D) (Q : VK), Gd W HF H → Rp W.K HF x dx → Rp W.K HF y dy → o dx dy = some dz → (∀ v H' HF', Fz W.T H HF HF' H' → Rp W.K HF' v dz → Q v H') → r x y H Q
/-- a new list by two values -/
def RvN (W : Wd) (r : R2) (o : D → D → Option (List D)) : Prop := ∀ (HF H : Hp) (x y : V) (dx dy : D) (dz : List D) (Q : VK), Gd W HF H → Rp W.K HF x dx → Rp W.K HF y dy → o dx dy = some dz →
  (∀ p vs, H p = none → RpL W.K HF vs dz → Q (.ref p) (upd H p (.lst vs))) → r x y H Q
def RuD (W : Wd) (r : V → Hp → VK → Prop) (o : D → Option D) : Prop := ∀ (HF H : Hp) (x : V) (dx dz : D) (Q : VK), Gd W HF H → Rp W.K HF x dx → o dx = some dz → (∀ v H' HF', Fz W.T H HF HF' H' → Rp W.K HF' v dz → Q v H') → r x H Q
def RcD (W : Wd) (r : List V → Hp → VK → Prop) (o : List D → Option D) : Prop := ∀ (HF H : Hp) (xs : List V) (ds : List D) (dz : D) (Q : VK), Gd W HF H → RpL W.K HF xs ds → o ds = some dz → (∀ v H' HF', Fz W.T H HF HF' H' → Rp W.K HF' v dz → Q v H') → r xs H Q
def RcN (W : Wd) (r : List V → Hp → VK → Prop) (o : List D → Option (List D)) : Prop := ∀ (HF H : Hp) (xs : List V) (ds : List D) (dz : List D) (Q : VK), Gd W HF H → RpL W.K HF xs ds → o ds = some dz →
  (∀ p vs, H p = none → RpL W.K HF vs dz → Q (.ref p) (upd H p (.lst vs))) → r xs H Q
def b1 (f : Nv → Option D) (o : D → Option D) (ρ : Nv) : Option D := (f ρ).bind o
def b2 {α : Type} (f g : Nv → Option D) (o : D → D → Option α) (ρ : Nv) : Option α := (f ρ).bind fun x => (g ρ).bind fun y => o x y
theorem b2_some {α : Type} {f g : Nv → Option D} {o : D → D → Option α} {ρ : Nv} {z : α} (h : b2 f g o ρ = some z) : ∃ x y, f ρ = some x ∧ g ρ = some y ∧ o x y = some z := by
  unfold b2 at h
  obtain ⟨x, h1, h⟩ := Option.bind_eq_some_iff.mp h
  obtain ⟨y, h2, h⟩ := Option.bind_eq_some_iff.mp h
  exact ⟨x, y, h1, h2, h⟩
section
variable {W : Wd} {ta tb tc : TE} {fa fb fc : Nv → Option D}
theorem de_op {r : R2} {o : D → D → Option D} (hr : RvD W r o) (ha : DE W ta fa) (hb : DE W tb fb) : DE W (tOp r ta tb) (b2 fa fb o) := by
  intro H0 HF0 σ H HF ρ d Q R e q
  obtain ⟨x, y, e1, e2, e3⟩ := b2_some e
  refine ha H0 HF0 σ H HF ρ x _ R e1 fun v H1 HF1 f1 r1 => ?_
  refine hb H0 HF0 σ H1 HF1 ρ y _ (R.grow f1) e2 fun u H2 HF2 f2 r2 => ?_
  exact hr HF2 H2 v u x y d Q f2.gd (r1.mono f2.fro) r2 e3 fun z H3 HF3 f3 r3 => q z H3 HF3 ((f1.trans f2).trans f3) r3
theorem dn_op {r : R2} {o : D → D → Option (List D)} (hr : RvN W r o) (ha : DE W ta fa) (hb : DE W tb fb) : DN W (tOp r ta tb) (b2 fa fb o) := by
  intro H0 HF0 σ H HF ρ d Q R e q
  obtain ⟨x, y, e1, e2, e3⟩ := b2_some e
  refine ha H0 HF0 σ H HF ρ x _ R e1 fun v H1 HF1 f1 r1 => ?_
  refine hb H0 HF0 σ H1 HF1 ρ y _ (R.grow f1) e2 fun u H2 HF2 f2 r2 => ?_
  refine hr HF2 H2 v u x y d Q f2.gd (r1.mono f2.fro) r2 e3 fun p vs hp h => ?_
  have f3 := (f1.trans f2).trans (Fz.laidO (o := .lst vs) f2.sub f2.tab f2.nt hp)
  exact q p vs _ HF2 f3 ((f1.trans f2).dom p hp) (Same.free f2.sub hp) upd_same h
end
end Qd
end
section
set_option Elab.async false
set_option linter.all false
set_option autoImplicit false
set_option maxRecDepth 100000
set_option maxHeartbeats 2000000
/-! Q2: expressions: operations by values, tests, displays, calls, slices. -/
namespace Qd
open PySem
open PySem.Spec
open PyProof.Rows
open L2
open LamX (ExtN Tabs TabS)

theorem Gd.sqL {W : Wd} {HF H : Hp} {a : Addr} {xs : List V} (g : Gd W HF H) (h : Rd HF a (.lst xs)) : SqL W.K H a xs := .inl (rd_mono g.sub h)
theorem Gd.sqT {W : Wd} {HF H : Hp} {a : Addr} {xs : List V} (g : Gd W HF H) (h : HF a = some (.tup xs)) : SqT W.K H a xs := SqT.of (g.sub _ _ h)
section
variable {K : PySem.W.Frag} {H : Hp} {v : V}
theorem Rp.int_inv {i : Int} (h : Rp K H v (.int i)) : v = .int i := by cases h; rfl
theorem Rp.bl_inv {b : Bool} (h : Rp K H v (.bool b)) : v = .bl b := by cases h; rfl
theorem Rp.str_inv {x : Str} (h : Rp K H v (.str x)) : v = .str x := by cases h; rfl
theorem Rp.non_inv (h : Rp K H v .none) : v = .non := by cases h; rfl
theorem Rp.lst_inv {ds : List D} (h : Rp K H v (.list ds)) : ∃ a xs, v = .ref a ∧ Rd H a (.lst xs) ∧ RpL K H xs ds := by
  cases h with
  | lst h hs => exact ⟨_, _, rfl, h, hs⟩
theorem Rp.tup_inv {ds : List D} (h : Rp K H v (.tuple ds)) : ∃ a xs, v = .ref a ∧ H a = some (.tup xs) ∧ RpL K H xs ds := by
  cases h with
  | tup h hs => exact ⟨_, _, rfl, h, hs⟩
theorem Rp.dic_inv {kvs : List (D × D)} (h : Rp K H v (.dict kvs)) : ∃ a kv, v = .ref a ∧ H a = some (.dK kv) ∧ (∀ q ∈ kv, scl q.2 = true) ∧ kvs = encK kv := by
  cases h with
  | dic h hs => exact ⟨_, _, rfl, h, hs, rfl⟩
end

/-! ### ints -/
def oI (g : Int → Int → Int) : D → D → Option D
  | .int i, .int j => some (.int (g i j))
  | _, _ => none
def oB (g : Int → Int → Bool) : D → D → Option D
  | .int i, .int j => some (.bool (g i j))
  | _, _ => none
def oIC (c : Int → Int → Bool) (g : Int → Int → Int) : D → D → Option D
  | .int i, .int j => if c i j = true then some (.int (g i j)) else none
  | _, _ => none
theorem oI_some {g : Int → Int → Int} {x y z : D} (h : oI g x y = some z) : ∃ i j, x = .int i ∧ y = .int j ∧ z = .int (g i j) := by
  cases x <;> cases y <;> first | (cases h; exact ⟨_, _, rfl, rfl, rfl⟩) | cases h
theorem oB_some {g : Int → Int → Bool} {x y z : D} (h : oB g x y = some z) : ∃ i j, x = .int i ∧ y = .int j ∧ z = .bool (g i j) := by
  cases x <;> cases y <;> first | (cases h; exact ⟨_, _, rfl, rfl, rfl⟩) | cases h
theorem oIC_some {c : Int → Int → Bool} {g : Int → Int → Int} {x y z : D} (h : oIC c g x y = some z) : ∃ i j, x = .int i ∧ y = .int j ∧ c i j = true ∧ z = .int (g i j) := by
  cases x <;> cases y <;> first
    | (rename_i i j
       have h' : (if c i j = true then some (PyData.int (g i j)) else none) = some z := h
       by_cases e : c i j = true
       · rw [if_pos e] at h'
         cases h'
         exact ⟨i, j, rfl, rfl, e, rfl⟩
       · rw [if_neg e] at h'
         cases h')
    | cases h
section
variable {W : Wd}
theorem rv_I0 {g : Int → Int → Int} : RvD W (rI0 fun i j => .int (g i j)) (oI g) := by
  intro HF H x y dx dy dz Q gd hx hy e q
  obtain ⟨i, j, rfl, rfl, rfl⟩ := oI_some e
  exact ⟨i, j, hx.int_inv, hy.int_inv, q _ H HF gd.fz (.int _)⟩
theorem rv_B0 {g : Int → Int → Bool} : RvD W (rI0 fun i j => .bl (g i j)) (oB g) := by
  intro HF H x y dx dy dz Q gd hx hy e q
  obtain ⟨i, j, rfl, rfl, rfl⟩ := oB_some e
  exact ⟨i, j, hx.int_inv, hy.int_inv, q _ H HF gd.fz (.bl _)⟩
theorem rv_IC {C : Int → Int → Prop} {c : Int → Int → Bool} {g : Int → Int → Int} (hc : ∀ i j, c i j = true → C i j) : RvD W (rI C fun i j => .int (g i j)) (oIC c g) := by
  intro HF H x y dx dy dz Q gd hx hy e q
  obtain ⟨i, j, rfl, rfl, hh, rfl⟩ := oIC_some e
  exact ⟨i, j, hx.int_inv, hy.int_inv, hc i j hh, q _ H HF gd.fz (.int _)⟩
def cMul (i j : Int) : Bool := decide ((-(2 ^ 64) < i ∧ i < 2 ^ 64) ∨ (-(2 ^ 64) < j ∧ j < 2 ^ 64))
def cDiv (_ j : Int) : Bool := decide (0 < j ∧ j < 1073741824)
def cMod (_ j : Int) : Bool := decide (0 < j)
def cPow (i j : Int) : Bool := decide (0 ≤ j ∧ j ≤ 1000000 ∧ i.natAbs < 2 ^ 64)
theorem rv_mul : RvD W (rI CMul fun i j => .int (i * j)) (oIC cMul fun i j => i * j) := rv_IC fun i j h => of_decide_eq_true (p := (-(2 ^ 64) < i ∧ i < 2 ^ 64) ∨ (-(2 ^ 64) < j ∧ j < 2 ^ 64)) h
theorem rv_div : RvD W (rI CDiv fun i j => .int (i / j)) (oIC cDiv fun i j => i / j) := rv_IC fun i j h => of_decide_eq_true (p := 0 < j ∧ j < 1073741824) h
theorem rv_mod : RvD W (rI (fun _ j => 0 < j) fun i j => .int (i % j)) (oIC cMod fun i j => i % j) := rv_IC fun i j h => of_decide_eq_true (p := 0 < j) h
theorem rv_pow : RvD W (rI CPow fun i j => .int (i ^ j.toNat)) (oIC cPow fun i j => i ^ j.toNat) := rv_IC fun i j h => of_decide_eq_true (p := 0 ≤ j ∧ j ≤ 1000000 ∧ i.natAbs < 2 ^ 64) h
def oNeg : D → Option D
  | .int i => some (.int (-i))
  | _ => none
theorem ru_neg : RuD W (rU fun i => .int (-i)) oNeg := by
  intro HF H x dx dz Q gd hx e q
  cases dx <;> first
    | (cases e; exact ⟨_, hx.int_inv, q _ H HF gd.fz (.int _)⟩)
    | (cases e; done)
end

/-! ### == and != -/
/-- scalars of one kind -/
def oEqS (neg : Bool) : D → D → Option D
  | .int i, .int j => some (.bool (if neg = true then !decide (i = j) else decide (i = j)))
  | .str i, .str j => some (.bool (if neg = true then !decide (i = j) else decide (i = j)))
  | .bool i, .bool j => some (.bool (if neg = true then !decide (i = j) else decide (i = j)))
  | _, _ => none
def oEqD (neg : Bool) (x y : D) : Option D := if (SeqAt.shaped x && SeqAt.shaped y) = true then some (.bool (if neg = true then !PyData.eqv x y else PyData.eqv x y)) else none
section
variable {W : Wd}
theorem dec_i {i j : Int} : decide (V.int i = V.int j) = decide (i = j) := by
  by_cases h : i = j
  · subst h; simp
  · simp [h]
theorem dec_s {i j : Str} : decide (V.str i = V.str j) = decide (i = j) := by
  by_cases h : i = j
  · subst h; simp
  · simp [h]
theorem dec_b {i j : Bool} : decide (V.bl i = V.bl j) = decide (i = j) := by
  by_cases h : i = j
  · subst h; simp
  · simp [h]
theorem rv_eqS : RvD W rEq (oEqS false) := by
  intro HF H x y dx dy dz Q gd hx hy e q
  cases dx <;> cases dy <;> first
    | (cases e; done)
    | (cases e; cases hx; cases hy; exact ⟨rfl, by rw [dec_i]; exact q _ H HF gd.fz (.bl _)⟩)
    | (cases e; cases hx; cases hy; exact ⟨rfl, by rw [dec_s]; exact q _ H HF gd.fz (.bl _)⟩)
    | (cases e; cases hx; cases hy; exact ⟨rfl, by rw [dec_b]; exact q _ H HF gd.fz (.bl _)⟩)
theorem rv_neS : RvD W rNe (oEqS true) := by
  intro HF H x y dx dy dz Q gd hx hy e q
  cases dx <;> cases dy <;> first
    | (cases e; done)
    | (cases e; cases hx; cases hy; exact ⟨rfl, by rw [dec_i]; exact q _ H HF gd.fz (.bl _)⟩)
    | (cases e; cases hx; cases hy; exact ⟨rfl, by rw [dec_s]; exact q _ H HF gd.fz (.bl _)⟩)
    | (cases e; cases hx; cases hy; exact ⟨rfl, by rw [dec_b]; exact q _ H HF gd.fz (.bl _)⟩)
theorem oEqD_some {neg : Bool} {x y z : D} (h : oEqD neg x y = some z) : SeqAt.shaped x = true ∧ SeqAt.shaped y = true ∧ z = .bool (if neg = true then !PyData.eqv x y else PyData.eqv x y) := by
  unfold oEqD at h
  by_cases e : (SeqAt.shaped x && SeqAt.shaped y) = true
  · rw [if_pos e] at h
    obtain ⟨e1, e2⟩ := Bool.and_eq_true_iff.mp e
    exact ⟨e1, e2, (Option.some.inj h).symm⟩
  · rw [if_neg e] at h
    cases h
theorem rv_eqD : RvD W (rEqD W.K) (oEqD false) := by
  intro HF H x y dx dy dz Q gd hx hy e q
  obtain ⟨s1, s2, rfl⟩ := oEqD_some e
  exact ⟨dx, dy, (hx.mono gd.sub).dp (SeqAt.canLay_of_shaped s1), (hy.mono gd.sub).dp (SeqAt.canLay_of_shaped s2), s1, s2, q _ H HF gd.fz (.bl _)⟩
theorem rv_neD : RvD W (rNeD W.K) (oEqD true) := by
  intro HF H x y dx dy dz Q gd hx hy e q
  obtain ⟨s1, s2, rfl⟩ := oEqD_some e
  exact ⟨dx, dy, (hx.mono gd.sub).dp (SeqAt.canLay_of_shaped s1), (hy.mono gd.sub).dp (SeqAt.canLay_of_shaped s2), s1, s2, q _ H HF gd.fz (.bl _)⟩
/-- is None -/
def isNonD : D → Bool
  | .none => true
  | _ => false
def oIsN (neg : Bool) : D → D → Option D
  | x, .none => some (.bool (if neg = true then !isNonD x else isNonD x))
  | _, _ => none
theorem dec_non {K : PySem.W.Frag} {HF : Hp} {x : V} {dx : D} (h : Rp K HF x dx) : decide (x = .non) = isNonD dx := by
  cases h <;> rfl
theorem rv_isN : RvD W (fun x y H Q => y = .non ∧ Q (.bl (decide (x = .non))) H) (oIsN false) := by
  intro HF H x y dx dy dz Q gd hx hy e q
  cases dy <;> first | (cases e; done) | skip
  refine ⟨hy.non_inv, ?_⟩
  rw [dec_non hx]
  cases e
  exact q _ H HF gd.fz (.bl _)
theorem rv_notN : RvD W (fun x y H Q => y = .non ∧ Q (.bl (!decide (x = .non))) H) (oIsN true) := by
  intro HF H x y dx dy dz Q gd hx hy e q
  cases dy <;> first | (cases e; done) | skip
  refine ⟨hy.non_inv, ?_⟩
  rw [dec_non hx]
  cases e
  exact q _ H HF gd.fz (.bl _)
/-- b is True -/
def oIsB : D → D → Option D
  | .bool a, .bool b => some (.bool (decide (a = b)))
  | _, _ => none
theorem rv_isB : RvD W rIsB oIsB := by
  intro HF H x y dx dy dz Q gd hx hy e q
  cases dx <;> cases dy <;> first
    | (cases e; done)
    | (cases e; cases hx; cases hy; exact ⟨_, _, rfl, rfl, q _ H HF gd.fz (.bl _)⟩)
end

/-! ### items, in, slices, + and * of lists and tuples -/
def seqOf : D → Option (List D)
  | .list ds => some ds
  | .tuple ds => some ds
  | _ => none
def oIx : D → D → Option D
  | .list ds, .int i => atI ds i
  | .tuple ds, .int i => atI ds i
  | _, _ => none
def flatD : D → Bool
  | .none => true
  | .bool _ => true
  | .int _ => true
  | .str _ => true
  | _ => false
def oIn (neg : Bool) (x y : D) : Option D := (seqOf y).bind fun ds => if (flatD x && ds.all flatD) = true then some (.bool (if neg = true then !(ds.any fun z => PyData.eqv z x) else ds.any fun z => PyData.eqv z x)) else none
theorem RpL.atI {K : PySem.W.Frag} {H : Hp} {vs : List V} {ds : List D} {i : Int} {d : D} (r : RpL K H vs ds) (h : L2.atI ds i = some d) : ∃ v, L2.atI vs i = some v ∧ Rp K H v d := by
  unfold L2.atI at h ⊢
  rw [r.length]
  obtain ⟨j, h1, h2⟩ := Option.bind_eq_some_iff.mp h
  obtain ⟨v, h3, h4⟩ := r.get h2
  exact ⟨v, by rw [h1]; exact h3, h4⟩
theorem flat_of {K : PySem.W.Frag} {H : Hp} {v : V} {d : D} (r : Rp K H v d) (h : flatD d = true) : flatV v = true := by
  cases r <;> first | rfl | cases h
theorem eqV_of {K : PySem.W.Frag} {H : Hp} {v u : V} {d e : D} (r : Rp K H v d) (q : Rp K H u e) (h : flatD d = true) (h' : flatD e = true) : eqV v u = PyData.eqv d e := by
  cases r <;> cases q <;> first | rfl | cases h | cases h' | (unfold PyData.eqv; rfl)
theorem flatAll_of {K : PySem.W.Frag} {H : Hp} : ∀ {vs : List V} {ds : List D}, RpL K H vs ds → ds.all flatD = true → vs.all flatV = true
  | _, _, .nil, _ => rfl
  | _, _, .cons h t, e => by
    rw [List.all_cons, Bool.and_eq_true] at e ⊢
    exact ⟨flat_of h e.1, flatAll_of t e.2⟩
theorem inV_of {K : PySem.W.Frag} {H : Hp} {u : V} {x : D} (q : Rp K H u x) (hx : flatD x = true) : ∀ {vs : List V} {ds : List D}, RpL K H vs ds → ds.all flatD = true → inV u vs = ds.any fun z => PyData.eqv z x
  | _, _, .nil, _ => rfl
  | _, _, .cons h t, e => by
    rw [List.all_cons, Bool.and_eq_true] at e
    have ih := inV_of q hx t e.2
    unfold inV at ih ⊢
    rw [List.any_cons, List.any_cons, ih, eqV_of h q e.1 hx]
section
variable {W : Wd}
theorem rv_ix : RvD W (rIx W.K) oIx := by
  intro HF H x y dx dy dz Q gd hx hy e q
  cases dx <;> cases dy <;> first
    | (cases e; done)
    | (obtain ⟨a, xs, rfl, hd, hr⟩ := hx.lst_inv
       obtain ⟨v, h1, h2⟩ := hr.atI e
       exact .inl ⟨a, xs, _, v, rfl, hy.int_inv, gd.sqL hd, h1, q v H HF gd.fz h2⟩)
    | (obtain ⟨a, xs, rfl, hd, hr⟩ := hx.tup_inv
       obtain ⟨v, h1, h2⟩ := hr.atI e
       exact .inr (.inl ⟨a, xs, _, v, rfl, hy.int_inv, gd.sqT hd, h1, q v H HF gd.fz h2⟩))
theorem rv_in {neg : Bool} : RvD W (rIn W.K neg) (oIn neg) := by
  intro HF H x y dx dy dz Q gd hx hy e q
  unfold oIn at e
  obtain ⟨ds, e1, e⟩ := Option.bind_eq_some_iff.mp e
  by_cases hf : (flatD dx && ds.all flatD) = true
  · rw [if_pos hf] at e
    obtain ⟨f1, f2⟩ := Bool.and_eq_true_iff.mp hf
    cases e
    have go : ∀ (a : Addr) (xs : List V), (SqL W.K H a xs ∨ SqT W.K H a xs) → RpL W.K HF xs ds → rIn W.K neg x (.ref a) H Q := fun a xs hs hr =>
      ⟨a, xs, rfl, hs, flat_of hx f1, flatAll_of hr f2, by rw [inV_of hx f1 hr f2]; exact q _ H HF gd.fz (.bl _)⟩
    cases dy <;> first
      | (cases e1; done)
      | (cases e1
         obtain ⟨a, xs, rfl, hd, hr⟩ := hy.lst_inv
         exact go a xs (.inl (gd.sqL hd)) hr)
      | (cases e1
         obtain ⟨a, xs, rfl, hd, hr⟩ := hy.tup_inv
         exact go a xs (.inr (gd.sqT hd)) hr)
  · rw [if_neg hf] at e
    cases e
end
def lim : Nat := 100000
theorem lim_le {n : Nat} (h : n ≤ lim) : n ≤ sizeLine := Nat.le_trans h (by decide)
theorem lim_lt {n : Nat} (h : n ≤ lim) : n < sizeLine := Nat.lt_of_le_of_lt h (by decide)
/-- list + list -/
def rCatR : R2 := fun x y H Q => ∃ l b xs zs, x = .ref l ∧ y = .ref b ∧ Rd H l (.lst xs) ∧ Rd H b (.lst zs) ∧ xs.length + zs.length ≤ sizeLine ∧ ∀ p, H p = none → Q (.ref p) (upd H p (.lst (xs ++ zs)))
theorem op_catR {X : Cx} : OpR X (binaryOp .Add) rCatR := by
  intro pins s σ H x y v u Q I rx ry h
  obtain ⟨l, b, xs, zs, rfl, rfl, hH, hB, hz, q⟩ := h
  cases rx
  cases ry
  obtain ⟨z, its, n, r, e⟩ := hH.ok I.hok
  obtain ⟨z2, its2, n2, r2, e2⟩ := hB.ok I.hok
  have hl := r.length
  have hl2 := r2.length
  refine PySem.P.add_list e e2 ?_ (by rw [List.size_toArray, List.size_toArray]; omega)
  have ea : its.toArray ++ its2.toArray = (its ++ its2).toArray := by simp
  rw [ea]
  exact ⟨.ref _, _, I.lnew (t' := s.toks) (r.append r2) (by rw [List.length_append]; omega), rfl, q _ I.fresh⟩
def oCatL : D → D → Option (List D)
  | .list xs, .list ys => if xs.length + ys.length ≤ lim then some (xs ++ ys) else none
  | _, _ => none
def oCatT : D → D → Option D
  | .tuple xs, .tuple ys => if xs.length + ys.length ≤ lim then some (.tuple (xs ++ ys)) else none
  | _, _ => none
/-- list * int -/
def rRepR : R2 := fun x y H Q => ∃ l k xs, x = .ref l ∧ y = .int k ∧ H l = some (.lst xs) ∧ -(2 ^ 63) ≤ k ∧ k < 2 ^ 63 ∧ xs.length * k.toNat ≤ sizeLine ∧
  ∀ p, H p = none → Q (.ref p) (upd H p (.lst (List.replicate k.toNat xs).flatten))
theorem op_repR {X : Cx} : OpR X (binaryOp .Mult) rRepR := fun pins s σ H x y v u Q I rx ry h => op_rep pins s σ H x y v u Q I rx ry h
def oRepT : D → D → Option D
  | .tuple xs, .int k => if xs ≠ [] ∧ 2 ≤ k ∧ k ≤ 1000 ∧ xs.length ≤ 1000 then some (.tuple (List.replicate k.toNat xs).flatten) else none
  | _, _ => none
theorem RpL.nil_iff {K : PySem.W.Frag} {H : Hp} {vs : List V} {ds : List D} (r : RpL K H vs ds) : vs = [] ↔ ds = [] := by
  cases r with
  | nil => exact ⟨fun _ => rfl, fun _ => rfl⟩
  | cons h t => exact ⟨(fun z => nomatch z), (fun z => nomatch z)⟩
section
variable {W : Wd}
theorem rn_catL : RvN W rCatR oCatL := by
  intro HF H x y dx dy dz Q gd hx hy e q
  cases dx <;> cases dy <;> first | (cases e; done) | skip
  rename_i xs ys
  have e' : (if xs.length + ys.length ≤ lim then some (xs ++ ys) else none) = some dz := e
  by_cases hl : xs.length + ys.length ≤ lim
  · rw [if_pos hl] at e'
    cases e'
    obtain ⟨a, us, rfl, hd, hr⟩ := hx.lst_inv
    obtain ⟨b, ws, rfl, hd2, hr2⟩ := hy.lst_inv
    exact ⟨a, b, us, ws, rfl, rfl, rd_mono gd.sub hd, rd_mono gd.sub hd2, by rw [hr.length, hr2.length]; exact lim_le hl, fun p hp => q p _ hp (hr.app hr2)⟩
  · rw [if_neg hl] at e'
    cases e'
theorem rv_catT : RvD W (rCatA W.K) oCatT := by
  intro HF H x y dx dy dz Q gd hx hy e q
  cases dx <;> cases dy <;> first | (cases e; done) | skip
  rename_i xs ys
  have e' : (if xs.length + ys.length ≤ lim then some (PyData.tuple (xs ++ ys)) else none) = some dz := e
  by_cases hl : xs.length + ys.length ≤ lim
  · rw [if_pos hl] at e'
    cases e'
    obtain ⟨a, us, rfl, hd, hr⟩ := hx.tup_inv
    obtain ⟨b, ws, rfl, hd2, hr2⟩ := hy.tup_inv
    refine ⟨a, b, us, ws, rfl, rfl, gd.sqT hd, gd.sqT hd2, by rw [hr.length, hr2.length]; exact lim_le hl, fun z => ?_, fun _ z => ?_, fun _ _ p hp => ?_⟩
    · have zx := hr.nil_iff.mp z
      subst zx
      exact q _ H HF gd.fz (.tup hd2 hr2)
    · have zy := hr2.nil_iff.mp z
      subst zy
      rw [List.append_nil] at q
      exact q _ H HF gd.fz (.tup hd hr)
    · have f := gd.laid (o := .tup (us ++ ws)) hp (fun ps z => by cases z)
      exact q _ _ _ f (.tup upd_same ((hr.app hr2).mono f.fro))
  · rw [if_neg hl] at e'
    cases e'
theorem rv_repT : RvD W (rRepT W.K) oRepT := by
  intro HF H x y dx dy dz Q gd hx hy e q
  cases dx <;> cases dy <;> first | (cases e; done) | skip
  rename_i xs k
  have e' : (if xs ≠ [] ∧ 2 ≤ k ∧ k ≤ 1000 ∧ xs.length ≤ 1000 then some (PyData.tuple (List.replicate k.toNat xs).flatten) else none) = some dz := e
  by_cases hl : xs ≠ [] ∧ 2 ≤ k ∧ k ≤ 1000 ∧ xs.length ≤ 1000
  · rw [if_pos hl] at e'
    cases e'
    obtain ⟨a, us, rfl, hd, hr⟩ := hx.tup_inv
    refine ⟨a, k, us, rfl, hy.int_inv, gd.sqT hd, fun z => hl.1 (hr.nil_iff.mp z), hl.2.1, hl.2.2.1, by rw [hr.length]; exact hl.2.2.2, fun p hp => ?_⟩
    have f := gd.laid (o := .tup (List.replicate k.toNat us).flatten) hp (fun ps z => by cases z)
    exact q _ _ _ f (.tup upd_same ((hr.rep k.toNat).mono f.fro))
  · rw [if_neg hl] at e'
    cases e'
end

/-! ### tests, and, or, not, if -/
def tb (f : Nv → Option D) (ρ : Nv) : Option Bool := match f ρ with
  | some (.bool b) => some b
  | _ => none
theorem tb_some {f : Nv → Option D} {ρ : Nv} {b : Bool} (h : tb f ρ = some b) : f ρ = some (.bool b) := by
  unfold tb at h
  split at h
  · rename_i b' e
    cases h
    exact e
  · cases h
def andT (f g : Nv → Option Bool) (ρ : Nv) : Option Bool := (f ρ).bind fun b => if b = true then g ρ else some false
def orT (f g : Nv → Option Bool) (ρ : Nv) : Option Bool := (f ρ).bind fun b => if b = true then some true else g ρ
def notT (f : Nv → Option Bool) (ρ : Nv) : Option Bool := (f ρ).map (!·)
def andV (f g : Nv → Option D) (ρ : Nv) : Option D := (tb f ρ).bind fun b => if b = true then g ρ else some (.bool false)
def orV (f g : Nv → Option D) (ρ : Nv) : Option D := (tb f ρ).bind fun b => if b = true then some (.bool true) else g ρ
def notV (f : Nv → Option D) (ρ : Nv) : Option D := (tb f ρ).map fun b => .bool (!b)
def ifV {α : Type} (c : Nv → Option Bool) (f g : Nv → Option α) (ρ : Nv) : Option α := (c ρ).bind fun b => if b = true then f ρ else g ρ
section
variable {W : Wd} {ta te tc : TE} {fa fe fc : Nv → Option D} {t u : TT} {f g : Nv → Option Bool}
theorem dt_test (h : DE W ta fa) : DT W (tTest ta) (tb fa) := by
  intro H0 HF0 σ H HF ρ b Q R e q
  refine h H0 HF0 σ H HF ρ _ _ R (tb_some e) fun v H' HF' f1 r1 => ⟨b, r1.bl_inv, q H' HF' f1⟩
theorem dt_B (h : DE W ta fa) : DT W (tB ta) (tb fa) := by
  intro H0 HF0 σ H HF ρ b Q R e q
  refine h H0 HF0 σ H HF ρ _ _ R (tb_some e) fun v H' HF' f1 r1 => ⟨b, r1.bl_inv, q H' HF' f1⟩
theorem dt_and (h : DT W t f) (h' : DT W u g) : DT W (tAnd t u) (andT f g) := by
  intro H0 HF0 σ H HF ρ b Q R e q
  obtain ⟨c, e1, e2⟩ := Option.bind_eq_some_iff.mp e
  refine h H0 HF0 σ H HF ρ c _ R e1 fun H1 HF1 f1 => ?_
  cases c with
  | true => exact h' H0 HF0 σ H1 HF1 ρ b Q (R.grow f1) e2 fun H2 HF2 f2 => q H2 HF2 (f1.trans f2)
  | false =>
    cases e2
    exact q H1 HF1 f1
theorem dt_or (h : DT W t f) (h' : DT W u g) : DT W (tOr t u) (orT f g) := by
  intro H0 HF0 σ H HF ρ b Q R e q
  obtain ⟨c, e1, e2⟩ := Option.bind_eq_some_iff.mp e
  refine h H0 HF0 σ H HF ρ c _ R e1 fun H1 HF1 f1 => ?_
  cases c with
  | false => exact h' H0 HF0 σ H1 HF1 ρ b Q (R.grow f1) e2 fun H2 HF2 f2 => q H2 HF2 (f1.trans f2)
  | true =>
    cases e2
    exact q H1 HF1 f1
theorem dt_not (h : DT W t f) : DT W (tNot t) (notT f) := by
  intro H0 HF0 σ H HF ρ b Q R e q
  obtain ⟨c, e1, rfl⟩ := Option.map_eq_some_iff.mp e
  exact h H0 HF0 σ H HF ρ c _ R e1 fun H1 HF1 f1 => q H1 HF1 f1
theorem de_and (h : DE W ta fa) (h' : DE W te fe) : DE W (tAndV ta te) (andV fa fe) := by
  intro H0 HF0 σ H HF ρ d Q R e q
  obtain ⟨c, e1, e2⟩ := Option.bind_eq_some_iff.mp e
  refine h H0 HF0 σ H HF ρ _ _ R (tb_some e1) fun v H1 HF1 f1 r1 => ⟨c, r1.bl_inv, ?_⟩
  cases c with
  | true => exact h' H0 HF0 σ H1 HF1 ρ d Q (R.grow f1) e2 fun v H2 HF2 f2 r2 => q v H2 HF2 (f1.trans f2) r2
  | false =>
    cases e2
    exact q _ H1 HF1 f1 (.bl _)
theorem de_or (h : DE W ta fa) (h' : DE W te fe) : DE W (tOrV ta te) (orV fa fe) := by
  intro H0 HF0 σ H HF ρ d Q R e q
  obtain ⟨c, e1, e2⟩ := Option.bind_eq_some_iff.mp e
  refine h H0 HF0 σ H HF ρ _ _ R (tb_some e1) fun v H1 HF1 f1 r1 => ⟨c, r1.bl_inv, ?_⟩
  cases c with
  | false => exact h' H0 HF0 σ H1 HF1 ρ d Q (R.grow f1) e2 fun v H2 HF2 f2 r2 => q v H2 HF2 (f1.trans f2) r2
  | true =>
    cases e2
    exact q _ H1 HF1 f1 (.bl _)
theorem de_not (h : DE W ta fa) : DE W (tNotV ta) (notV fa) := by
  intro H0 HF0 σ H HF ρ d Q R e q
  obtain ⟨c, e1, rfl⟩ := Option.map_eq_some_iff.mp e
  exact h H0 HF0 σ H HF ρ _ _ R (tb_some e1) fun v H1 HF1 f1 r1 => ⟨c, r1.bl_inv, q _ H1 HF1 f1 (.bl _)⟩
theorem de_if (hc : DT W t f) (h : DE W ta fa) (h' : DE W te fe) : DE W (tIf t ta te) (ifV f fa fe) := by
  intro H0 HF0 σ H HF ρ d Q R e q
  obtain ⟨c, e1, e2⟩ := Option.bind_eq_some_iff.mp e
  refine hc H0 HF0 σ H HF ρ c _ R e1 fun H1 HF1 f1 => ?_
  cases c with
  | true => exact h H0 HF0 σ H1 HF1 ρ d Q (R.grow f1) e2 fun v H2 HF2 f2 r2 => q v H2 HF2 (f1.trans f2) r2
  | false => exact h' H0 HF0 σ H1 HF1 ρ d Q (R.grow f1) e2 fun v H2 HF2 f2 r2 => q v H2 HF2 (f1.trans f2) r2
theorem de_un {r : V → Hp → VK → Prop} {o : D → Option D} (hr : RuD W r o) (ha : DE W ta fa) : DE W (tUn r ta) (b1 fa o) := by
  intro H0 HF0 σ H HF ρ d Q R e q
  obtain ⟨x, e1, e2⟩ := Option.bind_eq_some_iff.mp e
  refine ha H0 HF0 σ H HF ρ x _ R e1 fun v H1 HF1 f1 r1 => ?_
  exact hr HF1 H1 v x d Q f1.gd r1 e2 fun z H2 HF2 f2 r2 => q z H2 HF2 (f1.trans f2) r2
/-- a < b < c -/
def chV (fa fb fc : Nv → Option D) (o o' : D → D → Option D) (ρ : Nv) : Option D := (fa ρ).bind fun x => (fb ρ).bind fun y => (o x y).bind fun z => match z with
  | .bool b => if b = true then (fc ρ).bind fun w => o' y w else some (.bool false)
  | _ => none
theorem de_chain {r r' : R2} {o o' : D → D → Option D} (hr : RvD W r o) (hr' : RvD W r' o') (ha : DE W ta fa) (hb : DE W te fe) (hc : DE W tc fc) : DE W (tChain r r' ta te tc) (chV fa fe fc o o') := by
  intro H0 HF0 σ H HF ρ d Q R e q
  obtain ⟨x, e1, e⟩ := Option.bind_eq_some_iff.mp e
  obtain ⟨y, e2, e⟩ := Option.bind_eq_some_iff.mp e
  obtain ⟨z, e3, e⟩ := Option.bind_eq_some_iff.mp e
  refine ha H0 HF0 σ H HF ρ x _ R e1 fun v H1 HF1 f1 r1 => ?_
  refine hb H0 HF0 σ H1 HF1 ρ y _ (R.grow f1) e2 fun u H2 HF2 f2 r2 => ?_
  refine hr HF2 H2 v u x y z _ f2.gd (r1.mono f2.fro) r2 e3 fun b H3 HF3 f3 r3 => ?_
  cases z <;> first | (cases e; done) | skip
  rename_i k
  refine ⟨k, r3.bl_inv, ?_⟩
  cases k with
  | true =>
    obtain ⟨w, e4, e5⟩ := Option.bind_eq_some_iff.mp (show (fc ρ).bind (fun w => o' y w) = some d from e)
    refine hc H0 HF0 σ H3 HF3 ρ w _ (R.grow ((f1.trans f2).trans f3)) e4 fun c H4 HF4 f4 r4 => ?_
    exact hr' HF4 H4 u c y w d Q f4.gd (r2.mono (f3.trans f4).fro) r4 e5 fun z' H5 HF5 f5 r5 => q z' H5 HF5 ((((f1.trans f2).trans f3).trans f4).trans f5) r5
  | false =>
    cases e
    exact q _ H3 HF3 ((f1.trans f2).trans f3) (.bl _)
end
end Qd
end
section
set_option Elab.async false
set_option linter.all false
set_option autoImplicit false
set_option maxRecDepth 100000
set_option maxHeartbeats 2000000
/-! Q3: displays, arguments, calls, slices, comprehensions. -/
namespace Qd
open PySem
open PySem.Spec
open PyProof.Rows
open L2
open LamX (ExtN Tabs TabS)

/-! ### displays, arguments -/
def nilA (_ : Nv) : Option (List D) := some []
def consA (f : Nv → Option D) (g : Nv → Option (List D)) (ρ : Nv) : Option (List D) := (f ρ).bind fun x => (g ρ).bind fun r => some (x :: r)
def tupV (g : Nv → Option (List D)) (ρ : Nv) : Option D := (g ρ).bind fun r => if r.length ≤ lim then some (.tuple r) else none
def lstV (g : Nv → Option (List D)) (ρ : Nv) : Option (List D) := (g ρ).bind fun r => if r.length ≤ lim then some r else none
section
variable {W : Wd} {ta te : TE} {fa fe : Nv → Option D} {tr : TA} {g : Nv → Option (List D)}
theorem da_nil : DA W tNil nilA := fun H0 HF0 σ H HF ρ ds Q R e q => by
  cases e
  exact q [] H HF R.gd.fz .nil
theorem da_cons (h : DE W ta fa) (h' : DA W tr g) : DA W (tCons ta tr) (consA fa g) := by
  intro H0 HF0 σ H HF ρ ds Q R e q
  obtain ⟨x, e1, e⟩ := Option.bind_eq_some_iff.mp e
  obtain ⟨r, e2, e⟩ := Option.bind_eq_some_iff.mp e
  cases e
  refine h H0 HF0 σ H HF ρ x _ R e1 fun v H1 HF1 f1 r1 => ?_
  exact h' H0 HF0 σ H1 HF1 ρ r _ (R.grow f1) e2 fun vs H2 HF2 f2 r2 => q _ H2 HF2 (f1.trans f2) (.cons (r1.mono f2.fro) r2)
theorem de_tup (h : DA W tr g) : DE W (tTup tr) (tupV g) := by
  intro H0 HF0 σ H HF ρ d Q R e q
  obtain ⟨r, e1, e⟩ := Option.bind_eq_some_iff.mp e
  by_cases hl : r.length ≤ lim
  · rw [if_pos hl] at e
    cases e
    refine h H0 HF0 σ H HF ρ r _ R e1 fun vs H1 HF1 f1 r1 => ⟨by rw [r1.length]; exact lim_le hl, fun p hp => ?_⟩
    have f2 := f1.gd.laid (o := .tup vs) hp (fun ps z => by cases z)
    exact q _ _ _ (f1.trans f2) (.tup upd_same (r1.mono f2.fro))
  · rw [if_neg hl] at e
    cases e
theorem dn_lst (h : DA W tr g) : DN W (tLst tr) (lstV g) := by
  intro H0 HF0 σ H HF ρ d Q R e q
  obtain ⟨r, e1, e⟩ := Option.bind_eq_some_iff.mp e
  by_cases hl : r.length ≤ lim
  · rw [if_pos hl] at e
    obtain rfl : r = d := Option.some.inj e
    refine h H0 HF0 σ H HF ρ r _ R e1 fun vs H1 HF1 f1 r1 => ⟨by rw [r1.length]; exact lim_le hl, fun p hp => ?_⟩
    have f2 := f1.trans (Fz.laidO (o := .lst vs) f1.sub f1.tab f1.nt hp)
    exact q p vs _ HF1 f2 (f1.dom p hp) (Same.free f1.sub hp) upd_same r1
  · rw [if_neg hl] at e
    cases e

/-! ### calls of built-ins -/
def c1 (g : Nv → Option (List D)) (o : List D → Option D) (ρ : Nv) : Option D := (g ρ).bind o
def cN (g : Nv → Option (List D)) (o : List D → Option (List D)) (ρ : Nv) : Option (List D) := (g ρ).bind o
theorem de_cb {r : List V → Hp → VK → Prop} {o : List D → Option D} (hr : RcD W r o) (h : DA W tr g) : DE W (tCB r tr) (c1 g o) := by
  intro H0 HF0 σ H HF ρ d Q R e q
  obtain ⟨ds, e1, e2⟩ := Option.bind_eq_some_iff.mp e
  refine h H0 HF0 σ H HF ρ ds _ R e1 fun vs H1 HF1 f1 r1 => ?_
  exact hr HF1 H1 vs ds d Q f1.gd r1 e2 fun v H2 HF2 f2 r2 => q v H2 HF2 (f1.trans f2) r2
theorem dn_cb {r : List V → Hp → VK → Prop} {o : List D → Option (List D)} (hr : RcN W r o) (h : DA W tr g) : DN W (tCB r tr) (cN g o) := by
  intro H0 HF0 σ H HF ρ d Q R e q
  obtain ⟨ds, e1, e2⟩ := Option.bind_eq_some_iff.mp e
  refine h H0 HF0 σ H HF ρ ds _ R e1 fun vs H1 HF1 f1 r1 => ?_
  refine hr HF1 H1 vs ds d Q f1.gd r1 e2 fun p ws hp hw => ?_
  exact q p ws _ HF1 (f1.trans (Fz.laidO (o := .lst ws) f1.sub f1.tab f1.nt hp)) (f1.dom p hp) (Same.free f1.sub hp) upd_same hw
end
def oLen : List D → Option D
  | [x] => (seqOf x).map fun ds => .int ds.length
  | _ => none
def intsD : List D → Option (List Int)
  | [] => some []
  | .int i :: r => (intsD r).map (i :: ·)
  | _ :: _ => none
def boolsD : List D → Option (List Bool)
  | [] => some []
  | .bool i :: r => (boolsD r).map (i :: ·)
  | _ :: _ => none
theorem intsD_some : ∀ {ds : List D} {ns : List Int}, intsD ds = some ns → ds = ns.map PyData.int
  | [], ns, h => by
    cases h
    rfl
  | .int i :: r, ns, h => by
    obtain ⟨m, h1, rfl⟩ := Option.map_eq_some_iff.mp (show (intsD r).map (i :: ·) = some ns from h)
    rw [intsD_some h1]
    rfl
  | .none :: _, _, h => nomatch h
  | .bool _ :: _, _, h => nomatch h
  | .str _ :: _, _, h => nomatch h
  | .list _ :: _, _, h => nomatch h
  | .tuple _ :: _, _, h => nomatch h
  | .dict _ :: _, _, h => nomatch h
theorem boolsD_some : ∀ {ds : List D} {ns : List Bool}, boolsD ds = some ns → ds = ns.map PyData.bool
  | [], ns, h => by
    cases h
    rfl
  | .bool i :: r, ns, h => by
    obtain ⟨m, h1, rfl⟩ := Option.map_eq_some_iff.mp (show (boolsD r).map (i :: ·) = some ns from h)
    rw [boolsD_some h1]
    rfl
  | .none :: _, _, h => nomatch h
  | .int _ :: _, _, h => nomatch h
  | .str _ :: _, _, h => nomatch h
  | .list _ :: _, _, h => nomatch h
  | .tuple _ :: _, _, h => nomatch h
  | .dict _ :: _, _, h => nomatch h
theorem intsD_map : ∀ ns : List Int, intsD (ns.map PyData.int) = some ns
  | [] => rfl
  | n :: ns => by
    show (intsD (ns.map PyData.int)).map (n :: ·) = _
    rw [intsD_map ns]
    rfl
theorem boolsD_map : ∀ ns : List Bool, boolsD (ns.map PyData.bool) = some ns
  | [] => rfl
  | n :: ns => by
    show (boolsD (ns.map PyData.bool)).map (n :: ·) = _
    rw [boolsD_map ns]
    rfl
def oInt : List D → Option D
  | [.int i] => some (.int i)
  | [.bool b] => some (.int (if b = true then 1 else 0))
  | _ => none
def oAbs : List D → Option D
  | [.int i] => some (.int (if i < 0 then -i else i))
  | _ => none
def oMax2 : List D → Option D
  | [.int i, .int j] => some (.int (if j > i then j else i))
  | _ => none
def oMin2 : List D → Option D
  | [.int i, .int j] => some (.int (if j < i then j else i))
  | _ => none
def oSum : List D → Option D
  | [.list ds] => (intsD ds).map fun ns => .int ns.sum
  | _ => none
def oAny : List D → Option D
  | [.list ds] => (boolsD ds).map fun ns => .bool (ns.any id)
  | _ => none
def oAll : List D → Option D
  | [.list ds] => (boolsD ds).map fun ns => .bool (ns.all id)
  | _ => none
def oListOf : List D → Option (List D)
  | [x] => seqOf x
  | _ => none
def oTupOf : List D → Option D
  | [x] => (seqOf x).map .tuple
  | _ => none
section
variable {W : Wd}
theorem RpL.one {K : PySem.W.Frag} {H : Hp} {vs : List V} {d : D} (r : RpL K H vs [d]) : ∃ v, vs = [v] ∧ Rp K H v d := by
  cases r with
  | cons h t =>
    cases t
    exact ⟨_, rfl, h⟩
theorem RpL.two {K : PySem.W.Frag} {H : Hp} {vs : List V} {d e : D} (r : RpL K H vs [d, e]) : ∃ v u, vs = [v, u] ∧ Rp K H v d ∧ Rp K H u e := by
  cases r with
  | cons h t =>
    obtain ⟨u, rfl, h2⟩ := t.one
    exact ⟨_, _, rfl, h, h2⟩
theorem Gd.seq {HF H : Hp} {v : V} {x : D} {ds : List D} (gd : Gd W HF H) (hv : Rp W.K HF v x) (e : seqOf x = some ds) : ∃ a ys, v = .ref a ∧ (SqL W.K H a ys ∨ SqT W.K H a ys) ∧ RpL W.K HF ys ds := by
  cases x <;> first
    | (cases e; done)
    | (cases e
       obtain ⟨a, xs, rfl, hd, hr⟩ := hv.lst_inv
       exact ⟨a, xs, rfl, .inl (gd.sqL hd), hr⟩)
    | (cases e
       obtain ⟨a, xs, rfl, hd, hr⟩ := hv.tup_inv
       exact ⟨a, xs, rfl, .inr (gd.sqT hd), hr⟩)
theorem rc_len : RcD W (fun xs H Q => ∃ p ys, xs = [.ref p] ∧ (SqL W.K H p ys ∨ SqT W.K H p ys) ∧ Q (.int ys.length) H) oLen := by
  intro HF H xs ds dz Q gd r e q
  match ds, e with
  | [x], e =>
    obtain ⟨v, rfl, hv⟩ := r.one
    obtain ⟨es, e1, rfl⟩ := Option.map_eq_some_iff.mp (show (seqOf x).map _ = some dz from e)
    obtain ⟨a, ys, rfl, hs, hr⟩ := gd.seq hv e1
    refine ⟨a, ys, rfl, hs, ?_⟩
    rw [hr.length]
    exact q _ H HF gd.fz (.int _)
theorem rc_int : RcD W (fun xs H Q => (∃ i, xs = [.int i] ∧ Q (.int i) H) ∨ ∃ k, xs = [.bl k] ∧ Q (.int (if k then 1 else 0)) H) oInt := by
  intro HF H xs ds dz Q gd r e q
  match ds, e with
  | [.int i], e =>
    cases e
    obtain ⟨v, rfl, hv⟩ := r.one
    exact .inl ⟨i, by rw [hv.int_inv], q _ H HF gd.fz (.int _)⟩
  | [.bool b], e =>
    cases e
    obtain ⟨v, rfl, hv⟩ := r.one
    exact .inr ⟨b, by rw [hv.bl_inv], q _ H HF gd.fz (.int _)⟩
theorem rc_abs : RcD W (fun xs H Q => ∃ i, xs = [.int i] ∧ Q (.int (if i < 0 then -i else i)) H) oAbs := by
  intro HF H xs ds dz Q gd r e q
  match ds, e with
  | [.int i], e =>
    cases e
    obtain ⟨v, rfl, hv⟩ := r.one
    exact ⟨i, by rw [hv.int_inv], q _ H HF gd.fz (.int _)⟩
theorem rc_max2 : RcD W (fun xs H Q => ∃ i j, xs = [.int i, .int j] ∧ Q (.int (if j > i then j else i)) H) oMax2 := by
  intro HF H xs ds dz Q gd r e q
  match ds, e with
  | [.int i, .int j], e =>
    cases e
    obtain ⟨v, u, rfl, hv, hu⟩ := r.two
    exact ⟨i, j, by rw [hv.int_inv, hu.int_inv], q _ H HF gd.fz (.int _)⟩
theorem rc_min2 : RcD W (fun xs H Q => ∃ i j, xs = [.int i, .int j] ∧ Q (.int (if j < i then j else i)) H) oMin2 := by
  intro HF H xs ds dz Q gd r e q
  match ds, e with
  | [.int i, .int j], e =>
    cases e
    obtain ⟨v, u, rfl, hv, hu⟩ := r.two
    exact ⟨i, j, by rw [hv.int_inv, hu.int_inv], q _ H HF gd.fz (.int _)⟩
theorem rc_sum : RcD W (rSum W.K) oSum := by
  intro HF H xs ds dz Q gd r e q
  match ds, e with
  | [.list es], e =>
    obtain ⟨ns, e1, rfl⟩ := Option.map_eq_some_iff.mp (show (intsD es).map _ = some dz from e)
    obtain ⟨v, rfl, hv⟩ := r.one
    obtain ⟨a, ys, rfl, hd, hr⟩ := hv.lst_inv
    rw [intsD_some e1] at hr
    exact ⟨a, ns, rfl, by rw [← hr.ints]; exact gd.sqL hd, q _ H HF gd.fz (.int _)⟩
theorem rc_any : RcD W (rAny W.K) oAny := by
  intro HF H xs ds dz Q gd r e q
  match ds, e with
  | [.list es], e =>
    obtain ⟨ns, e1, rfl⟩ := Option.map_eq_some_iff.mp (show (boolsD es).map _ = some dz from e)
    obtain ⟨v, rfl, hv⟩ := r.one
    obtain ⟨a, ys, rfl, hd, hr⟩ := hv.lst_inv
    rw [boolsD_some e1] at hr
    exact ⟨a, ns, rfl, by rw [← hr.bools]; exact gd.sqL hd, q _ H HF gd.fz (.bl _)⟩
theorem rc_all : RcD W (rAll W.K) oAll := by
  intro HF H xs ds dz Q gd r e q
  match ds, e with
  | [.list es], e =>
    obtain ⟨ns, e1, rfl⟩ := Option.map_eq_some_iff.mp (show (boolsD es).map _ = some dz from e)
    obtain ⟨v, rfl, hv⟩ := r.one
    obtain ⟨a, ys, rfl, hd, hr⟩ := hv.lst_inv
    rw [boolsD_some e1] at hr
    exact ⟨a, ns, rfl, by rw [← hr.bools]; exact gd.sqL hd, q _ H HF gd.fz (.bl _)⟩
theorem rc_listOf : RcN W (fun xs H Q => ∃ p ys, xs = [.ref p] ∧ (SqL W.K H p ys ∨ SqT W.K H p ys) ∧ ∀ l, H l = none → Q (.ref l) (upd H l (.lst ys))) oListOf := by
  intro HF H xs ds dz Q gd r e q
  match ds, e with
  | [x], e =>
    obtain ⟨v, rfl, hv⟩ := r.one
    obtain ⟨a, ys, rfl, hs, hr⟩ := gd.seq hv (show seqOf x = some dz from e)
    exact ⟨a, ys, rfl, hs, fun l hl => q l ys hl hr⟩
theorem rc_tupOf : RcD W (fun xs H Q => ∃ p ys, xs = [.ref p] ∧ ((SqL W.K H p ys ∧ ∀ l, H l = none → Q (.ref l) (upd H l (.tup ys))) ∨ (SqT W.K H p ys ∧ Q (.ref p) H))) oTupOf := by
  intro HF H xs ds dz Q gd r e q
  match ds, e with
  | [x], e =>
    obtain ⟨v, rfl, hv⟩ := r.one
    obtain ⟨es, e1, rfl⟩ := Option.map_eq_some_iff.mp (show (seqOf x).map _ = some dz from e)
    cases x <;> first | (cases e1; done) | skip
    · cases e1
      obtain ⟨a, ys, rfl, hd, hr⟩ := hv.lst_inv
      refine ⟨a, ys, rfl, .inl ⟨gd.sqL hd, fun l hl => ?_⟩⟩
      have f := gd.laid (o := .tup ys) hl (fun ps z => by cases z)
      exact q _ _ _ f (.tup upd_same (hr.mono f.fro))
    · cases e1
      obtain ⟨a, ys, rfl, hd, hr⟩ := hv.tup_inv
      exact ⟨a, ys, rfl, .inr ⟨gd.sqT hd, q _ H HF gd.fz (.tup hd hr)⟩⟩

/-! ### isinstance -/
def tyD : D → String
  | .none => "NoneType"
  | .bool _ => "bool"
  | .int _ => "int"
  | .str _ => "str"
  | .list _ => "list"
  | .tuple _ => "tuple"
  | .dict _ => "dict"
def oIsi (T : String) (x : D) : Option D := (kitB (tyD x) T).map .bool
theorem ty_of {HF H : Hp} {v : V} {x : D} (gd : Gd W HF H) (h : Rp W.K HF v x) : TyX W.K H v (.type (tyD x)) := by
  cases h with
  | non => exact .base .non
  | bl b => exact .base (.bl b)
  | int i => exact .base (.int i)
  | str x => exact .base (.str x)
  | lst h hs =>
    rcases rd_mono gd.sub h with h | ⟨o, h⟩
    · exact .base (.lst h)
    · exact .base (.frz h)
  | tup h hs => exact .base (.tup (gd.sub _ _ h))
  | dic h hs => exact .base (.dK (gd.sub _ _ h))
theorem de_isi {ta : TE} {fa : Nv → Option D} {T : String} (h : DE W ta fa) : DE W (tCB (rIsi W.K) (tCons ta (tCons (tC (.ty T)) tNil))) (b1 fa (oIsi T)) := by
  intro H0 HF0 σ H HF ρ d Q R e q
  obtain ⟨x, e1, e2⟩ := Option.bind_eq_some_iff.mp e
  obtain ⟨b, e3, rfl⟩ := Option.map_eq_some_iff.mp e2
  refine h H0 HF0 σ H HF ρ x _ R e1 fun v H1 HF1 f1 r1 => ?_
  exact ⟨v, .ty T, _, _, b, rfl, .ty T, ty_of f1.gd r1, kit_ty e3, q _ H1 HF1 f1 (.bl b)⟩

/-! ### slices -/
def DO (W : Wd) (t : TO) (f : Nv → Option (Option Int)) : Prop := ∀ (H0 HF0 : Hp) (σ : Sg) (H HF : Hp) (ρ : Nv) (o : Option Int) (Q : Option Int → Hp → Prop), Rel W H0 HF0 σ H HF ρ → f ρ = some o → (∀ H' HF', Fz W.T H HF HF' H' → Q o H') → t σ H Q
def iD : D → Option Int
  | .int i => some i
  | _ => none
def noP (_ : Nv) : Option (Option Int) := some none
def someP (f : Nv → Option D) (ρ : Nv) : Option (Option Int) := ((f ρ).bind iD).map some
theorem iD_some {x : D} {i : Int} (h : iD x = some i) : x = .int i := by
  cases x <;> first | (cases h; rfl) | cases h
theorem do_none : DO W tNoPart noP := fun H0 HF0 σ H HF ρ o Q R e q => by
  cases e
  exact q H HF R.gd.fz
theorem do_some {ta : TE} {fa : Nv → Option D} (h : DE W ta fa) : DO W (tPart ta) (someP fa) := by
  intro H0 HF0 σ H HF ρ o Q R e q
  obtain ⟨i, e1, rfl⟩ := Option.map_eq_some_iff.mp e
  obtain ⟨x, e2, e3⟩ := Option.bind_eq_some_iff.mp e1
  rw [iD_some e3] at e2
  exact h H0 HF0 σ H HF ρ _ _ R e2 fun v H1 HF1 f1 r1 => ⟨i, r1.int_inv, q H1 HF1 f1⟩
def cutD (xs : List D) (lo hi : Option Int) : List D := (xs.drop (HT.sIx xs.length 0 lo)).take (HT.sIx xs.length xs.length hi - HT.sIx xs.length 0 lo)
theorem RpL.cut {K : PySem.W.Frag} {H : Hp} {vs : List V} {ds : List D} (r : RpL K H vs ds) (lo hi : Option Int) : RpL K H (cutV vs lo hi) (cutD ds lo hi) := by
  unfold cutV cutD
  rw [r.length]
  exact (r.drop _).take _
def slV {α : Type} (fe : Nv → Option D) (fl fh : Nv → Option (Option Int)) (o : D → Option Int → Option Int → Option α) (ρ : Nv) : Option α := (fe ρ).bind fun x => (fl ρ).bind fun l => (fh ρ).bind fun h => o x l h
def oSlT (x : D) (l h : Option Int) : Option D := match x with
  | .tuple ds => some (.tuple (cutD ds l h))
  | _ => none
def oSlL (x : D) (l h : Option Int) : Option (List D) := match x with
  | .list ds => some (cutD ds l h)
  | _ => none
theorem slV_some {α : Type} {fe : Nv → Option D} {fl fh : Nv → Option (Option Int)} {o : D → Option Int → Option Int → Option α} {ρ : Nv} {z : α} (e : slV fe fl fh o ρ = some z) : ∃ x l h, fe ρ = some x ∧ fl ρ = some l ∧ fh ρ = some h ∧ o x l h = some z := by
  obtain ⟨x, e1, e⟩ := Option.bind_eq_some_iff.mp e
  obtain ⟨l, e2, e⟩ := Option.bind_eq_some_iff.mp e
  obtain ⟨h, e3, e⟩ := Option.bind_eq_some_iff.mp e
  exact ⟨x, l, h, e1, e2, e3, e⟩
theorem cut_whole (ds : List D) (lo hi : Option Int) (h : HT.sIx ds.length 0 lo = 0 ∧ HT.sIx ds.length ds.length hi = ds.length) : cutD ds lo hi = ds := by
  unfold cutD
  rw [h.1, h.2, List.drop_zero, Nat.sub_zero, List.take_length]
theorem de_slT {te : TE} {tl th : TO} {fe : Nv → Option D} {fl fh : Nv → Option (Option Int)} (he : DE W te fe) (hl : DO W tl fl) (hh : DO W th fh) : DE W (tSl (rSlA W.K) te tl th) (slV fe fl fh oSlT) := by
  intro H0 HF0 σ H HF ρ d Q R e q
  obtain ⟨x, l, h, e1, e2, e3, e4⟩ := slV_some e
  refine he H0 HF0 σ H HF ρ x _ R e1 fun v H1 HF1 f1 r1 => ?_
  refine hl H0 HF0 σ H1 HF1 ρ l _ (R.grow f1) e2 fun H2 HF2 f2 => ?_
  refine hh H0 HF0 σ H2 HF2 ρ h _ (R.grow (f1.trans f2)) e3 fun H3 HF3 f3 => ?_
  have f13 := (f1.trans f2).trans f3
  have r3 := r1.mono (f2.trans f3).fro
  cases x <;> first | (cases e4; done) | skip
  rename_i ds
  cases e4
  obtain ⟨a, ys, rfl, hd, hr⟩ := r3.tup_inv
  refine ⟨a, ys, rfl, f13.gd.sqT hd, fun z => ?_, fun _ p hp => ?_⟩
  · rw [hr.length] at z
    rw [cut_whole ds l h z] at q
    exact q _ H3 HF3 f13 (.tup hd hr)
  · have f4 := f13.gd.laid (o := .tup (cutV ys l h)) hp (fun ps z => by cases z)
    exact q _ _ _ (f13.trans f4) (.tup upd_same ((hr.cut l h).mono f4.fro))
theorem dn_slL {te : TE} {tl th : TO} {fe : Nv → Option D} {fl fh : Nv → Option (Option Int)} (he : DE W te fe) (hl : DO W tl fl) (hh : DO W th fh) : DN W (tSl (rSlL W.K) te tl th) (slV fe fl fh oSlL) := by
  intro H0 HF0 σ H HF ρ d Q R e q
  obtain ⟨x, l, h, e1, e2, e3, e4⟩ := slV_some e
  refine he H0 HF0 σ H HF ρ x _ R e1 fun v H1 HF1 f1 r1 => ?_
  refine hl H0 HF0 σ H1 HF1 ρ l _ (R.grow f1) e2 fun H2 HF2 f2 => ?_
  refine hh H0 HF0 σ H2 HF2 ρ h _ (R.grow (f1.trans f2)) e3 fun H3 HF3 f3 => ?_
  have f13 := (f1.trans f2).trans f3
  have r3 := r1.mono (f2.trans f3).fro
  cases x <;> first | (cases e4; done) | skip
  rename_i ds
  cases e4
  obtain ⟨a, ys, rfl, hd, hr⟩ := r3.lst_inv
  refine ⟨a, ys, rfl, f13.gd.sqL hd, fun p hp => ?_⟩
  exact q p _ _ HF3 (f13.trans (Fz.laidO (o := .lst (cutV ys l h)) f13.sub f13.tab f13.nt hp)) (f13.dom p hp) (Same.free f13.sub hp) upd_same (hr.cut l h)
/-- xs[::-1] -/
def revV (fe : Nv → Option D) (ρ : Nv) : Option (List D) := (fe ρ).bind fun x => match x with
  | .list ds => some ds.reverse
  | _ => none
theorem dn_rev {te : TE} {fe : Nv → Option D} (he : DE W te fe) : DN W (tRevL W.K te) (revV fe) := by
  intro H0 HF0 σ H HF ρ d Q R e q
  obtain ⟨x, e1, e4⟩ := Option.bind_eq_some_iff.mp e
  refine he H0 HF0 σ H HF ρ x _ R e1 fun v H1 HF1 f1 r1 => ?_
  cases x <;> first | (cases e4; done) | skip
  rename_i ds
  cases e4
  obtain ⟨a, ys, rfl, hd, hr⟩ := r1.lst_inv
  refine ⟨a, ys, rfl, f1.gd.sqL hd, fun p hp => ?_⟩
  exact q p _ _ HF1 (f1.trans (Fz.laidO (o := .lst ys.reverse) f1.sub f1.tab f1.nt hp)) (f1.dom p hp) (Same.free f1.sub hp) upd_same hr.rev

/-! ### list(range(..)), tuple(range(..)) -/
def rgD (a b : Int) : List D := (List.range (b - a).toNat).map fun i => .int (a + (i : Nat))
def DR (W : Wd) (t : L2.St → Hp → (Int → Int → Hp → Prop) → Prop) (f : Nv → Option (Int × Int)) : Prop := ∀ (H0 HF0 : Hp) (σ : Sg) (H HF : Hp) (ρ : Nv) (p : Int × Int) (Q : Int → Int → Hp → Prop), Rel W H0 HF0 σ H HF ρ → f ρ = some p → (∀ H' HF', Fz W.T H HF HF' H' → Q p.1 p.2 H') → t σ H Q
def rg1 (f : Nv → Option D) (ρ : Nv) : Option (Int × Int) := ((f ρ).bind iD).map fun n => (0, n)
def rg2 (f g : Nv → Option D) (ρ : Nv) : Option (Int × Int) := ((f ρ).bind iD).bind fun m => ((g ρ).bind iD).map fun n => (m, n)
theorem dr_1 {ta : TE} {fa : Nv → Option D} (h : DE W ta fa) : DR W (tRg1 ta) (rg1 fa) := by
  intro H0 HF0 σ H HF ρ p Q R e q
  obtain ⟨i, e1, rfl⟩ := Option.map_eq_some_iff.mp e
  obtain ⟨x, e2, e3⟩ := Option.bind_eq_some_iff.mp e1
  rw [iD_some e3] at e2
  exact h H0 HF0 σ H HF ρ _ _ R e2 fun v H1 HF1 f1 r1 => ⟨i, r1.int_inv, q H1 HF1 f1⟩
def rgOk (p : Int × Int) : Bool := decide (-1000 ≤ p.1 ∧ p.1 ≤ 1000 ∧ -1000 ≤ p.2 ∧ p.2 ≤ 1000)
theorem rgOk_ok {p : Int × Int} (h : rgOk p = true) : RgOk p.1 p.2 := by
  have h' := of_decide_eq_true (p := -1000 ≤ p.1 ∧ p.1 ≤ 1000 ∧ -1000 ≤ p.2 ∧ p.2 ≤ 1000) h
  exact ⟨by omega, by omega, by omega, by omega, by omega⟩
def lstRg (f : Nv → Option (Int × Int)) (ρ : Nv) : Option (List D) := (f ρ).bind fun p => if rgOk p = true then some (rgD p.1 p.2) else none
theorem rgL {HF : Hp} (a b : Int) : RpL W.K HF (rgV a b) (rgD a b) := by
  unfold rgV rgD
  generalize List.range (b - a).toNat = l
  induction l with
  | nil => exact .nil
  | cons x l ih => exact .cons (.int _) ih
theorem dn_lstRg {t : L2.St → Hp → (Int → Int → Hp → Prop) → Prop} {f : Nv → Option (Int × Int)} (h : DR W t f) : DN W (tLstRg t) (lstRg f) := by
  intro H0 HF0 σ H HF ρ d Q R e q
  obtain ⟨p, e1, e2⟩ := Option.bind_eq_some_iff.mp e
  by_cases hk : rgOk p = true
  · rw [if_pos hk] at e2
    cases e2
    refine h H0 HF0 σ H HF ρ p _ R e1 fun H1 HF1 f1 => ⟨rgOk_ok hk, fun l hl => ?_⟩
    exact q l _ _ HF1 (f1.trans (Fz.laidO (o := .lst (rgV p.1 p.2)) f1.sub f1.tab f1.nt hl)) (f1.dom l hl) (Same.free f1.sub hl) upd_same (rgL p.1 p.2)
  · rw [if_neg hk] at e2
    cases e2
theorem de_tupRg {t : L2.St → Hp → (Int → Int → Hp → Prop) → Prop} {f : Nv → Option (Int × Int)} (h : DR W t f) : DE W (tTupRg t) (fun ρ => (lstRg f ρ).map .tuple) := by
  intro H0 HF0 σ H HF ρ d Q R e q
  obtain ⟨ds, e0, rfl⟩ := Option.map_eq_some_iff.mp e
  obtain ⟨p, e1, e2⟩ := Option.bind_eq_some_iff.mp e0
  by_cases hk : rgOk p = true
  · rw [if_pos hk] at e2
    cases e2
    refine h H0 HF0 σ H HF ρ p _ R e1 fun H1 HF1 f1 => ⟨rgOk_ok hk, fun l hl => ?_⟩
    have f4 := f1.gd.laid (o := .tup (rgV p.1 p.2)) hl (fun ps z => by cases z)
    exact q _ _ _ (f1.trans f4) (.tup upd_same (rgL p.1 p.2))
  · rw [if_neg hk] at e2
    cases e2
end

/-! ### calls of the text's own defs -/
/-- the promise: n data in, F of them out -/
def SpF (W : Wd) (n : Nat) (F : List D → Option D) : Sp := fun vs H Q _ => vs.length = n ∧ ∃ HF ds d, Gd W HF H ∧ RpL W.K HF vs ds ∧ F ds = some d ∧ ∀ v H' HF', Fz W.T H HF HF' H' → Rp W.K HF' v d → Q v H'
theorem de_call {W : Wd} {n : Nat} {F : List D → Option D} {E : XK} {tr : TA} {g : Nv → Option (List D)} (h : DA W tr g) (hn : ∀ ρ ds, g ρ = some ds → ds.length = n) : DE W (tCall (SpF W n F) [] E tr) (c1 g F) := by
  intro H0 HF0 σ H HF ρ d Q R e q
  obtain ⟨ds, e1, e2⟩ := Option.bind_eq_some_iff.mp e
  refine h H0 HF0 σ H HF ρ ds _ R e1 fun vs H1 HF1 f1 r1 => ?_
  refine ⟨by rw [List.append_nil, r1.length]; exact hn ρ ds e1, HF1, ds, d, f1.gd, by rw [List.append_nil]; exact r1, e2, fun v H2 HF2 f2 r2 => q v H2 HF2 (f1.trans f2) r2⟩
end Qd
end
section
set_option Elab.async false
set_option linter.all false
set_option autoImplicit false
set_option maxRecDepth 100000
set_option maxHeartbeats 2000000
/-! Q4: targets, what is walked, comprehensions, statements. -/
namespace Qd
open PySem
open PySem.Spec
open PyProof.Rows
open L2
open LamX (ExtN Tabs TabS)

/-! ### targets: js are the slots that they store -/
def DGj (W : Wd) (js : List Nat) (g : TG) (a : D → Nv → Option Nv) : Prop := ∀ (H0 HF0 : Hp) (σ : Sg) (H HF : Hp) (ρ ρ' : Nv) (v : V) (d : D) (Q : Sg → Hp → Prop), Rel W H0 HF0 σ H HF ρ → Rp W.K HF v d → a d ρ = some ρ' →
  (∀ σ', Rel W H0 HF0 σ' H HF ρ' → σ'.length = σ.length → (∀ j, j ∉ js → σ'[j]? = σ[j]?) → Q σ' H) → g v σ H Q
def DGs (W : Wd) (js : List Nat) (g : TGs) (a : List D → Nv → Option Nv) : Prop := ∀ (H0 HF0 : Hp) (σ : Sg) (H HF : Hp) (ρ ρ' : Nv) (vs : List V) (ds : List D) (Q : Sg → Hp → Prop), Rel W H0 HF0 σ H HF ρ → RpL W.K HF vs ds → a ds ρ = some ρ' →
  (∀ σ', Rel W H0 HF0 σ' H HF ρ' → σ'.length = σ.length → (∀ j, j ∉ js → σ'[j]? = σ[j]?) → Q σ' H) → g vs σ H Q
def setN (i : Nat) (d : D) (ρ : Nv) : Option Nv := some (ρ.set i (some (.dat d)))
def nilG : List D → Nv → Option Nv
  | [], ρ => some ρ
  | _ :: _, _ => none
def consG (a : D → Nv → Option Nv) (b : List D → Nv → Option Nv) : List D → Nv → Option Nv
  | d :: ds, ρ => (a d ρ).bind (b ds)
  | [], _ => none
def tupG (n : Nat) (b : List D → Nv → Option Nv) : D → Nv → Option Nv
  | .tuple ds, ρ => if ds.length = n then b ds ρ else none
  | _, _ => none
section
variable {W : Wd}
theorem dg_name (i : Nat) : DGj W [i] (gName i) (setN i) := by
  intro H0 HF0 σ H HF ρ ρ' v d Q R r e q
  cases e
  exact q _ (R.set (e := .dat d) r rfl) (List.length_set ..) fun j hj => List.getElem?_set_ne (fun z => hj (by rw [z]; exact List.mem_singleton.mpr rfl))
theorem dgs_nil : DGs W [] gNil nilG := by
  intro H0 HF0 σ H HF ρ ρ' vs ds Q R r e q
  cases r with
  | nil =>
    cases e
    exact ⟨rfl, q σ R rfl fun j hj => rfl⟩
  | cons h t => cases e
theorem dgs_cons {js ks : List Nat} {g : TG} {gs : TGs} {a : D → Nv → Option Nv} {b : List D → Nv → Option Nv} (h1 : DGj W js g a) (h2 : DGs W ks gs b) : DGs W (js ++ ks) (gCons g gs) (consG a b) := by
  intro H0 HF0 σ H HF ρ ρ' vs ds Q R r e q
  cases r with
  | nil => cases e
  | cons h t =>
    obtain ⟨ρ1, e1, e2⟩ := Option.bind_eq_some_iff.mp e
    refine ⟨_, _, rfl, h1 H0 HF0 σ H HF ρ ρ1 _ _ _ R h e1 fun σ1 R1 l1 n1 => ?_⟩
    refine h2 H0 HF0 σ1 H HF ρ1 ρ' _ _ Q R1 t e2 fun σ2 R2 l2 n2 => q σ2 R2 (l2.trans l1) fun j hj => ?_
    rw [List.mem_append, not_or] at hj
    rw [n2 j hj.2, n1 j hj.1]
theorem dg_tup {js : List Nat} {gs : TGs} {b : List D → Nv → Option Nv} {n : Nat} (h : DGs W js gs b) : DGj W js (gTup W.K n gs) (tupG n b) := by
  intro H0 HF0 σ H HF ρ ρ' v d Q R r e q
  cases d <;> first | (cases e; done) | skip
  rename_i ds
  obtain ⟨a, ys, rfl, hd, hr⟩ := r.tup_inv
  by_cases hl : ds.length = n
  · have e' : b ds ρ = some ρ' := by
      have z : (if ds.length = n then b ds ρ else none) = some ρ' := e
      rw [if_pos hl] at z
      exact z
    exact ⟨a, ys, rfl, R.gd.sqT hd, by rw [hr.length]; exact hl, h H0 HF0 σ H HF ρ ρ' ys ds Q R hr e' q⟩
  · have z : (if ds.length = n then b ds ρ else none) = some ρ' := e
    rw [if_neg hl] at z
    cases z
end

/-! ### what is walked -/
structure WalkD (W : Wd) (J : It) (ds : List D) (HF : Hp) : Prop where
  go : ∀ i H, Same HF H → i < ds.length → J.go i H
  stop : ∀ H, Same HF H → J.stop ds.length H
  yld : ∀ i H x H', Same HF H → i < ds.length → J.yld i H x H' → H' = H ∧ ∃ d, ds[i]? = some d ∧ Rp W.K HF x d
def DI (W : Wd) (wi : TI) (f : Nv → Option (List D)) : Prop := ∀ (H0 HF0 : Hp) (σ : Sg) (H HF : Hp) (ρ : Nv) (ds : List D) (R : It → Hp → Prop), Rel W H0 HF0 σ H HF ρ → f ρ = some ds →
  (∀ J H' HF', Fz W.T H HF HF' H' → WalkD W J ds HF' → R J H') → wi σ H R
def itL (f : Nv → Option D) (ρ : Nv) : Option (List D) := (f ρ).bind fun x => match x with
  | .list ds => if ds.length ≤ lim then some ds else none
  | _ => none
def itT (f : Nv → Option D) (ρ : Nv) : Option (List D) := (f ρ).bind fun x => match x with
  | .tuple ds => if ds.length ≤ lim then some ds else none
  | _ => none
def iA1 : List D → Option Int
  | [.int i] => some i
  | _ => none
def iA2 : List D → Option (Int × Int)
  | [.int i, .int j] => some (i, j)
  | _ => none
def itR1 (g : Nv → Option (List D)) (ρ : Nv) : Option (List D) := ((g ρ).bind iA1).bind fun n => if rgOk (0, n) = true then some (rgD 0 n) else none
def itR2 (g : Nv → Option (List D)) (ρ : Nv) : Option (List D) := ((g ρ).bind iA2).bind fun p => if rgOk p = true then some (rgD p.1 p.2) else none
theorem itL_some {f : Nv → Option D} {ρ : Nv} {ds : List D} (h : itL f ρ = some ds) : f ρ = some (.list ds) ∧ ds.length ≤ lim := by
  obtain ⟨x, e1, e2⟩ := Option.bind_eq_some_iff.mp h
  cases x <;> first | (cases e2; done) | skip
  rename_i es
  have e3 : (if es.length ≤ lim then some es else none) = some ds := e2
  by_cases hl : es.length ≤ lim
  · rw [if_pos hl] at e3
    cases e3
    exact ⟨e1, hl⟩
  · rw [if_neg hl] at e3
    cases e3
theorem itT_some {f : Nv → Option D} {ρ : Nv} {ds : List D} (h : itT f ρ = some ds) : f ρ = some (.tuple ds) ∧ ds.length ≤ lim := by
  obtain ⟨x, e1, e2⟩ := Option.bind_eq_some_iff.mp h
  cases x <;> first | (cases e2; done) | skip
  rename_i es
  have e3 : (if es.length ≤ lim then some es else none) = some ds := e2
  by_cases hl : es.length ≤ lim
  · rw [if_pos hl] at e3
    cases e3
    exact ⟨e1, hl⟩
  · rw [if_neg hl] at e3
    cases e3
theorem rgD_len (a b : Int) : (rgD a b).length = (b - a).toNat := by
  unfold rgD
  rw [List.length_map, List.length_range]
theorem rgD_get {a b : Int} {i : Nat} (h : i < (b - a).toNat) : (rgD a b)[i]? = some (.int (a + (i : Nat))) := by
  unfold rgD
  rw [List.getElem?_map, List.getElem?_range h]
  rfl
section
variable {W : Wd}
theorem walk_lst {HF : Hp} {a : Addr} {xs : List V} {ds : List D} (hd : Rd HF a (.lst xs)) (hr : RpL W.K HF xs ds) : WalkD W (Itl W.K a) ds HF := by
  have sq : ∀ H, Same HF H → SqL W.K H a xs := fun H s => .inl (rd_mono s hd)
  refine ⟨fun i H s hi => ?_, fun H s => ⟨xs, sq H s, by rw [hr.length]; exact Nat.le_refl _⟩, fun i H x H' s hi y => ?_⟩
  · have hi' : i < xs.length := by rw [hr.length]; exact hi
    exact ⟨xs, xs[i], sq H s, by simp [hi']⟩
  · obtain ⟨e, f⟩ := y
    exact ⟨e, hr.getV (f xs (sq H s))⟩
theorem walk_tupD {HF : Hp} {a : Addr} {xs : List V} {ds : List D} (hd : HF a = some (.tup xs)) (hr : RpL W.K HF xs ds) : WalkD W (Itt W.K a) ds HF := by
  have sq : ∀ H, Same HF H → SqT W.K H a xs := fun H s => SqT.of (s _ _ hd)
  refine ⟨fun i H s hi => ?_, fun H s => ⟨xs, sq H s, by rw [hr.length]; exact Nat.le_refl _⟩, fun i H x H' s hi y => ?_⟩
  · have hi' : i < xs.length := by rw [hr.length]; exact hi
    exact ⟨xs, xs[i], sq H s, by simp [hi']⟩
  · obtain ⟨e, f⟩ := y
    exact ⟨e, hr.getV (f xs (sq H s))⟩
theorem walk_rg {HF : Hp} {a b : Int} : WalkD W (Itr a (b - a).toNat) (rgD a b) HF :=
  ⟨fun i H s hi => by rw [rgD_len] at hi; exact hi, fun H s => by rw [rgD_len]; exact Nat.le_refl _, fun i H x H' s hi y => by
    rw [rgD_len] at hi
    obtain ⟨e1, e2⟩ := y
    subst e1 e2
    exact ⟨rfl, _, rgD_get hi, .int _⟩⟩
theorem di_list {tl : TE} {f : Nv → Option D} (h : DE W tl f) : DI W (iList W.K tl) (itL f) := by
  intro H0 HF0 σ H HF ρ ds R Rl e q
  obtain ⟨e1, hl⟩ := itL_some e
  refine h H0 HF0 σ H HF ρ _ _ Rl e1 fun v H1 HF1 f1 r1 => ?_
  obtain ⟨a, xs, rfl, hd, hr⟩ := r1.lst_inv
  exact ⟨a, rfl, ⟨xs, f1.gd.sqL hd⟩, q _ H1 HF1 f1 (walk_lst hd hr)⟩
theorem di_tup {tl : TE} {f : Nv → Option D} (h : DE W tl f) : DI W (iTup W.K tl) (itT f) := by
  intro H0 HF0 σ H HF ρ ds R Rl e q
  obtain ⟨e1, hl⟩ := itT_some e
  refine h H0 HF0 σ H HF ρ _ _ Rl e1 fun v H1 HF1 f1 r1 => ?_
  obtain ⟨a, xs, rfl, hd, hr⟩ := r1.tup_inv
  exact ⟨a, rfl, ⟨xs, f1.gd.sqT hd⟩, q _ H1 HF1 f1 (walk_tupD hd hr)⟩
theorem iA1_some {ds : List D} {i : Int} (h : iA1 ds = some i) : ds = [.int i] := by
  unfold iA1 at h
  split at h
  · cases h
    rfl
  · cases h
theorem iA2_some {ds : List D} {p : Int × Int} (h : iA2 ds = some p) : ds = [.int p.1, .int p.2] := by
  unfold iA2 at h
  split at h
  · cases h
    rfl
  · cases h
theorem di_rg1 {ta : TA} {g : Nv → Option (List D)} (h : DA W ta g) : DI W (iRng1 ta) (itR1 g) := by
  intro H0 HF0 σ H HF ρ ds R Rl e q
  obtain ⟨n, e1, e2⟩ := Option.bind_eq_some_iff.mp e
  obtain ⟨es, e3, e4⟩ := Option.bind_eq_some_iff.mp e1
  rw [iA1_some e4] at e3
  by_cases hk : rgOk (0, n) = true
  · rw [if_pos hk] at e2
    cases e2
    refine h H0 HF0 σ H HF ρ _ _ Rl e3 fun vs H1 HF1 f1 r1 => ?_
    obtain ⟨v, rfl, hv⟩ := r1.one
    obtain ⟨_, _, k1, k2, _⟩ := rgOk_ok hk
    refine ⟨n, by rw [hv.int_inv], k1, k2, ?_⟩
    have w := q (Itr 0 n.toNat) H1 HF1 f1
    have z : (n - 0).toNat = n.toNat := by omega
    rw [← z] at w ⊢
    exact w walk_rg
  · rw [if_neg hk] at e2
    cases e2
theorem di_rg2 {ta : TA} {g : Nv → Option (List D)} (h : DA W ta g) : DI W (iRng2 ta) (itR2 g) := by
  intro H0 HF0 σ H HF ρ ds R Rl e q
  obtain ⟨p, e1, e2⟩ := Option.bind_eq_some_iff.mp e
  obtain ⟨es, e3, e4⟩ := Option.bind_eq_some_iff.mp e1
  rw [iA2_some e4] at e3
  by_cases hk : rgOk p = true
  · rw [if_pos hk] at e2
    cases e2
    refine h H0 HF0 σ H HF ρ _ _ Rl e3 fun vs H1 HF1 f1 r1 => ?_
    obtain ⟨v, u, rfl, hv, hu⟩ := r1.two
    obtain ⟨k1, k2, k3, k4, _⟩ := rgOk_ok hk
    exact ⟨p.1, p.2, by rw [hv.int_inv, hu.int_inv], ⟨k1, k2, k3, k4⟩, q _ H1 HF1 f1 walk_rg⟩
  · rw [if_neg hk] at e2
    cases e2
end

/-! ### comprehensions -/
def wipeN (ρ : Nv) : List Nat → Nv
  | [] => ρ
  | v :: vs => (wipeN ρ vs).set v none
def DTs (W : Wd) (t : TT) (f : Nv → Option Bool) : Prop := DT W t f
def yesT (_ : Nv) : Option Bool := some true
theorem dt_yes {W : Wd} : DT W tYes yesT := fun H0 HF0 σ H HF ρ b Q R e q => by
  cases e
  exact q H HF R.gd.fz
def lcD (a : D → Nv → Option Nv) (ft : Nv → Option Bool) (fe : Nv → Option D) (ρ : Nv) : List D → Option (List D)
  | [] => some []
  | d :: ds => (a d ρ).bind fun ρ1 => (ft ρ1).bind fun b => if b = true then (fe ρ1).bind fun y => (lcD a ft fe ρ ds).map (y :: ·) else lcD a ft fe ρ ds
def lcV (fi : Nv → Option (List D)) (a : D → Nv → Option Nv) (ft : Nv → Option Bool) (fe : Nv → Option D) (vs : List Nat) (ρ : Nv) : Option (List D) := (fi ρ).bind fun ds => if ds.length ≤ lim then lcD a ft fe (wipeN ρ vs) ds else none
section
variable {W : Wd} {H0 HF0 : Hp}
theorem Rel.drop {σ : Sg} {H HF : Hp} {ρ : Nv} (R : Rel W H0 HF0 σ H HF ρ) (i : Nat) : Rel W H0 HF0 (σ.set i none) H HF (ρ.set i none) := by
  have old : ∀ {j : Nat} {e : En}, (ρ.set i none)[j]? = some (some e) → i ≠ j ∧ ρ[j]? = some (some e) := fun {j e} h => by
    by_cases z : i = j
    · subst z
      by_cases hl : i < ρ.length
      · rw [List.getElem?_set_self hl] at h
        cases h
      · rw [List.getElem?_eq_none (by simpa using hl)] at h
        cases h
    · rw [List.getElem?_set_ne z] at h
      exact ⟨z, h⟩
  refine ⟨R.fz, by rw [List.length_set, List.length_set]; exact R.len, fun j e h => ?_, fun j k e e' a hjk h1 h2 m1 m2 => ?_⟩
  · obtain ⟨hn, h⟩ := old h
    rw [List.getElem?_set_ne hn]
    exact R.at_ j e h
  · obtain ⟨n1, h1⟩ := old h1
    obtain ⟨n2, h2⟩ := old h2
    rw [List.getElem?_set_ne n1, List.getElem?_set_ne n2]
    exact R.sep j k e e' a hjk h1 h2 m1 m2
theorem Rel.wipe {σ : Sg} {H HF : Hp} {ρ : Nv} (R : Rel W H0 HF0 σ H HF ρ) : ∀ vs : List Nat, Rel W H0 HF0 (L2.wipe σ vs) H HF (wipeN ρ vs)
  | [] => R
  | v :: vs => (Rel.wipe R vs).drop v
theorem wipe_at (σ : Sg) : ∀ (vs : List Nat) (j : Nat), (L2.wipe σ vs)[j]? = if j ∈ vs ∧ j < σ.length then some none else σ[j]?
  | [], j => by
    rw [if_neg (by simp)]
    rfl
  | v :: vs, j => by
    show ((L2.wipe σ vs).set v none)[j]? = _
    by_cases e : v = j
    · subst e
      by_cases hl : v < σ.length
      · rw [List.getElem?_set_self (by rw [wipe_length]; exact hl), if_pos ⟨List.mem_cons_self, hl⟩]
      · rw [List.getElem?_eq_none (by rw [List.length_set, wipe_length]; omega), if_neg (fun z => hl z.2), List.getElem?_eq_none (by omega)]
    · rw [List.getElem?_set_ne e, wipe_at σ vs j]
      by_cases hm : j ∈ vs ∧ j < σ.length
      · rw [if_pos hm, if_pos ⟨List.mem_cons_of_mem _ hm.1, hm.2⟩]
      · rw [if_neg hm, if_neg (fun z => hm ⟨(List.mem_cons.mp z.1).resolve_left (fun q => e q.symm), z.2⟩)]
theorem wipe_eq {σ τ : Sg} {vs js : List Nat} (hl : τ.length = σ.length) (hj : ∀ j, j ∉ js → τ[j]? = σ[j]?) (hs : ∀ j ∈ js, j ∈ vs) : L2.wipe τ vs = L2.wipe σ vs := by
  refine List.ext_getElem? fun j => ?_
  rw [wipe_at, wipe_at, hl]
  by_cases hm : j ∈ vs ∧ j < σ.length
  · rw [if_pos hm, if_pos hm]
  · rw [if_neg hm, if_neg hm]
    by_cases hk : j ∈ js
    · have : ¬ j < σ.length := fun z => hm ⟨hs j hk, z⟩
      rw [List.getElem?_eq_none (by omega), List.getElem?_eq_none (by omega)]
    · exact hj j hk
theorem wipe_wipe (σ : Sg) (vs : List Nat) : L2.wipe (L2.wipe σ vs) vs = L2.wipe σ vs := by
  refine List.ext_getElem? fun j => ?_
  rw [wipe_at, wipe_length, wipe_at]
  by_cases hm : j ∈ vs ∧ j < σ.length
  · rw [if_pos hm, if_pos hm]
  · rw [if_neg hm, if_neg hm]
theorem Fz.keepsD {T : List (Addr × Str)} {H HF HF' H' : Hp} {Dl : Addr} {vs : List V} (f : Fz T H HF HF' H') (hD : H Dl = some (.lst vs)) (hF : HF Dl = none) : H' Dl = some (.lst vs) ∧ HF' Dl = none :=
  ⟨f.ext Dl _ hD (fun ps z => by cases z), fz_none f hF hD (fun ps z => by cases z)⟩
/-- an own object that no name holds is written -/
theorem Rel.writeD {σ : Sg} {H HF : Hp} {ρ : Nv} {p : Addr} {u o : HO} (R : Rel W H0 HF0 σ H HF ρ) (hf : HF p = none) (hp : H p = some u) (l : H0 p = none) (h1 : ∀ ps, u ≠ .tbl ps) (h2 : ∀ phi, u ≠ .ext phi)
    (hn : ∀ (j : Nat) (e : En), ρ[j]? = some (some e) → e.mut = true → σ[j]? ≠ some (some (.ref p))) : Rel W H0 HF0 σ (upd H p o) HF ρ := by
  refine ⟨R.fz.write hf hp l h1 h2, R.len, fun j e h => ?_, R.sep⟩
  obtain ⟨v, q1, q2⟩ := R.at_ j e h
  refine ⟨v, q1, ?_⟩
  cases e with
  | dat d => exact q2
  | fn G => exact q2
  | own ds =>
    obtain ⟨b, ws, x1, x2, x3, x4, x5⟩ := q2
    subst x1
    have nb : b ≠ p := fun z => hn j _ h rfl (by rw [← z]; exact q1)
    exact ⟨b, ws, rfl, x2, x3, by rw [upd_ne nb]; exact x4, x5⟩
  | odi kv =>
    obtain ⟨b, x1, x2, x3, x4, x5⟩ := q2
    subst x1
    have nb : b ≠ p := fun z => hn j _ h rfl (by rw [← z]; exact q1)
    exact ⟨b, rfl, x2, x3, by rw [upd_ne nb]; exact x4, x5⟩
theorem lcD_cons {a : D → Nv → Option Nv} {ft : Nv → Option Bool} {fe : Nv → Option D} {ρ : Nv} {d : D} {ds out : List D} (h : lcD a ft fe ρ (d :: ds) = some out) :
    ∃ ρ1 b, a d ρ = some ρ1 ∧ ft ρ1 = some b ∧ ((b = true ∧ ∃ y r, fe ρ1 = some y ∧ lcD a ft fe ρ ds = some r ∧ out = y :: r) ∨ (b = false ∧ lcD a ft fe ρ ds = some out)) := by
  obtain ⟨ρ1, e1, e⟩ := Option.bind_eq_some_iff.mp (show (a d ρ).bind _ = some out from h)
  obtain ⟨b, e2, e⟩ := Option.bind_eq_some_iff.mp e
  refine ⟨ρ1, b, e1, e2, ?_⟩
  cases b with
  | true =>
    rw [if_pos rfl] at e
    obtain ⟨y, e3, e⟩ := Option.bind_eq_some_iff.mp e
    obtain ⟨r, e4, rfl⟩ := Option.map_eq_some_iff.mp e
    exact .inl ⟨rfl, y, r, e3, e4, rfl⟩
  | false =>
    rw [if_neg Bool.false_ne_true] at e
    exact .inr ⟨rfl, e⟩
/-- the items that are still to come -/
theorem drop_cons {ds : List D} {i : Nat} (h : i < ds.length) : ∃ d, ds[i]? = some d ∧ ds.drop i = d :: ds.drop (i + 1) :=
  ⟨ds[i], List.getElem?_eq_getElem h, List.drop_eq_getElem_cons h⟩
theorem dn_lc {wi : TI} {fi : Nv → Option (List D)} {g : TG} {a : D → Nv → Option Nv} {js vs : List Nat} {tt : TT} {ft : Nv → Option Bool} {te : TE} {fe : Nv → Option D}
    (hi : DI W wi fi) (hg : DGj W js g a) (hs : ∀ j ∈ js, j ∈ vs) (ht : DT W tt ft) (he : DE W te fe) : DN W (tLc wi g tt te vs) (lcV fi a ft fe vs) := by
  intro H0 HF0 σ H HF ρ out Q R e q
  obtain ⟨ds, e1, e2⟩ := Option.bind_eq_some_iff.mp e
  have hl : ds.length ≤ lim := by
    by_cases hl : ds.length ≤ lim
    · exact hl
    · rw [if_neg hl] at e2
      cases e2
  rw [if_pos hl] at e2
  refine hi H0 HF0 σ H HF ρ ds _ R e1 fun J H1 HF1 f1 wd => ?_
  intro Dl hD
  have R1 := R.grow f1
  have hDF : HF1 Dl = none := Same.free f1.sub hD
  have hD0 : H Dl = none := f1.dom Dl hD
  have hDe : H0 Dl = none := R1.fz.dom Dl hD
  -- W: the turn, what is left to give; acc holds what was given
  refine ⟨fun i m H2 => m = ds.length - i ∧ i ≤ ds.length ∧ ∃ HF2 acc ys zs, Fz W.T H HF HF2 H2 ∧ Same HF1 HF2 ∧ HF2 Dl = none ∧ H2 Dl = some (.lst acc) ∧ RpL W.K HF2 acc ys ∧ acc.length ≤ i ∧ Rel W H0 HF0 (L2.wipe σ vs) H2 HF2 (wipeN ρ vs) ∧ lcD a ft fe (wipeN ρ vs) (ds.drop i) = some zs ∧ out = ys ++ zs, ⟨_, rfl, Nat.zero_le _, ?_⟩, ?_⟩
  · have f2 : Fz W.T H HF HF1 (upd H1 Dl (.lst [])) := f1.trans (Fz.laidO f1.sub f1.tab f1.nt hD)
    refine ⟨HF1, [], [], out, f2, Same.refl _, hDF, upd_same, .nil, Nat.le_refl _, ((R1.grow (Fz.laidO (o := .lst []) f1.sub f1.tab f1.nt hD)).wipe vs), ?_, rfl⟩
    rw [List.drop_zero]
    exact e2
  · rintro i m H2 ⟨rfl, hi2, HF2, acc, ys, zs, f2, s2, d2, a2, r2, hacc, R2, ez, rfl⟩
    by_cases hlt : i < ds.length
    · refine .inr ⟨wd.go i H2 (s2.trans f2.sub) hlt, fun H' => i + 1 ≤ ds.length ∧ ∃ HF2 acc ys' zs', Fz W.T H HF HF2 H' ∧ Same HF1 HF2 ∧ HF2 Dl = none ∧ H' Dl = some (.lst acc) ∧ RpL W.K HF2 acc ys' ∧ acc.length ≤ i + 1 ∧ Rel W H0 HF0 (L2.wipe σ vs) H' HF2 (wipeN ρ vs) ∧ lcD a ft fe (wipeN ρ vs) (ds.drop (i + 1)) = some zs' ∧ ys ++ zs = ys' ++ zs', fun H' h => ⟨ds.length - (i + 1), by omega, rfl, h.1, h.2⟩, fun x H' hy => ?_⟩
      obtain ⟨rfl, d, hd, hx⟩ := wd.yld i H2 x H' (s2.trans f2.sub) hlt hy
      obtain ⟨d', hd', hdr⟩ := drop_cons hlt
      rw [hd] at hd'
      cases hd'
      rw [hdr] at ez
      obtain ⟨ρ1, b, x1, x2, x3⟩ := lcD_cons ez
      refine hg H0 HF0 (L2.wipe σ vs) H' HF2 (wipeN ρ vs) ρ1 x d _ R2 (hx.mono s2) x1 fun σ3 R3 l3 n3 => ⟨?_, ?_⟩
      · rw [← wipe_wipe σ vs]
        exact wipe_eq l3 n3 hs
      · refine ht H0 HF0 σ3 H' HF2 ρ1 b _ R3 x2 fun H4 HF4 f4 => ?_
        obtain ⟨k1, k2⟩ := f4.keepsD a2 d2
        rcases x3 with ⟨rfl, y, r, y1, y2, rfl⟩ | ⟨rfl, y2⟩
        · rw [if_pos rfl]
          refine he H0 HF0 σ3 H4 HF4 ρ1 y _ (R3.grow f4) y1 fun v H5 HF5 f5 r5 => ⟨acc, (f5.keepsD k1 k2).1, by have := hl; exact lim_lt (by omega), by omega, HF5, acc ++ [v], ys ++ [y], r, ?_, ?_, (f5.keepsD k1 k2).2, upd_same, (r2.mono (f4.trans f5).fro).app (.cons r5 .nil), by rw [List.length_append, List.length_singleton]; omega, ?_, y2, by simp⟩
          · obtain ⟨k3, k4⟩ := f5.keepsD k1 k2
            exact ((f2.trans f4).trans f5).write k4 k3 hD0 (fun ps z => by cases z) (fun ps z => by cases z)
          · exact s2.trans (f4.trans f5).fro
          · obtain ⟨k3, k4⟩ := f5.keepsD k1 k2
            refine ((R2.grow f4).grow f5).writeD k4 k3 hDe (fun ps z => by cases z) (fun ps z => by cases z) fun j e hj hm hb => ?_
            have old := ((R1.wipe vs).ownAt hj hm hb).2.2
            obtain ⟨o, ho, _⟩ := old
            rw [hD] at ho
            cases ho
        · rw [if_neg Bool.false_ne_true]
          exact ⟨by omega, HF4, acc, ys, zs, f2.trans f4, s2.trans f4.fro, k2, k1, r2.mono f4.fro, by omega, R2.grow f4, y2, rfl⟩
    · have ei : i = ds.length := by omega
      subst ei
      refine .inl ⟨wd.stop H2 (s2.trans f2.sub), ?_⟩
      rw [List.drop_length] at ez
      cases ez
      rw [List.append_nil] at q
      exact q Dl acc H2 HF2 f2 hD0 d2 a2 r2
end
end Qd
end
section
set_option Elab.async false
set_option linter.all false
set_option autoImplicit false
set_option maxRecDepth 100000
set_option maxHeartbeats 2000000
/-! Q5: statements. -/
namespace Qd
open PySem
open PySem.Spec
open PyProof.Rows
open L2
open LamX (ExtN Tabs TabS)

abbrev Gs := Nv → Option Out
def nextS (ρ : Nv) : Option Out := some (.nx ρ)
def seqS (g h : Gs) (ρ : Nv) : Option Out := (g ρ).bind fun o => match o with
  | .nx ρ' => h ρ'
  | o => some o
def asgS (f : Nv → Option D) (a : D → Nv → Option Nv) (ρ : Nv) : Option Out := (f ρ).bind fun d => (a d ρ).map .nx
def ownS (i : Nat) (f : Nv → Option (List D)) (ρ : Nv) : Option Out := (f ρ).map fun ds => .nx (ρ.set i (some (.own ds)))
def odiS (i : Nat) (ρ : Nv) : Option Out := some (.nx (ρ.set i (some (.odi []))))
def retS (f : Nv → Option D) (ρ : Nv) : Option Out := (f ρ).map .rt
def retNS (_ : Nv) : Option Out := some (.rt .none)
def ifS (c : Nv → Option Bool) (g h : Gs) (ρ : Nv) : Option Out := (c ρ).bind fun b => if b = true then g ρ else h ρ
def neverS (_ : Nv) : Option Out := none
def brkS (ρ : Nv) : Option Out := some (.bk ρ)
def parS (i j : Nat) (f g : Nv → Option D) (ρ : Nv) : Option Out := (f ρ).bind fun x => (g ρ).bind fun y => some (.nx ((ρ.set i (some (.dat x))).set j (some (.dat y))))
def augS (i : Nat) (f : Nv → Option D) (o : D → D → Option D) (ρ : Nv) : Option Out := (gD i ρ).bind fun x => (f ρ).bind fun y => (o x y).map fun z => .nx (ρ.set i (some (.dat z)))
def whS (c : Nv → Option Bool) (b : Gs) : Nat → Gs
  | 0, _ => none
  | n + 1, ρ => (c ρ).bind fun k => if k = true then (b ρ).bind fun o => match o with
      | .nx ρ' => whS c b n ρ'
      | .ct ρ' => whS c b n ρ'
      | .bk ρ' => some (.nx ρ')
      | .rt d => some (.rt d)
    else some (.nx ρ)
def foS (a : D → Nv → Option Nv) (b : Gs) : List D → Gs
  | [], ρ => some (.nx ρ)
  | d :: ds, ρ => (a d ρ).bind fun ρ1 => (b ρ1).bind fun o => match o with
      | .nx ρ' => foS a b ds ρ'
      | .ct ρ' => foS a b ds ρ'
      | .bk ρ' => some (.nx ρ')
      | .rt d => some (.rt d)
def forS (fi : Nv → Option (List D)) (a : D → Nv → Option Nv) (b : Gs) (ρ : Nv) : Option Out := (fi ρ).bind fun ds => foS a b ds ρ
/-- an own list becomes plain data ahead of a statement -/
def gO (i : Nat) (ρ : Nv) : Option (List D) := match ρ[i]? with
  | some (some (.own ds)) => some ds
  | _ => none
def gK (i : Nat) (ρ : Nv) : Option (List (Key × V)) := match ρ[i]? with
  | some (some (.odi kv)) => some kv
  | _ => none
def frzS (i : Nat) (g : Gs) (ρ : Nv) : Option Out := (gO i ρ).bind fun ds => g (ρ.set i (some (.dat (.list ds))))
theorem gO_eq {i : Nat} {ρ : Nv} {ds : List D} (h : gO i ρ = some ds) : ρ[i]? = some (some (.own ds)) := by
  unfold gO at h
  split at h
  · rename_i d' e
    cases h
    exact e
  · cases h
theorem gK_eq {i : Nat} {ρ : Nv} {kv : List (Key × V)} (h : gK i ρ = some kv) : ρ[i]? = some (some (.odi kv)) := by
  unfold gK at h
  split at h
  · rename_i d' e
    cases h
    exact e
  · cases h
section
variable {W : Wd}
theorem Post.mono {H0 HF0 HF HF' : Hp} {Dn : Ends} {o : Out} (s : Same HF HF') (p : Post W H0 HF0 HF Dn o) : Post W H0 HF0 HF' Dn o := by
  cases o with
  | nx ρ => exact fun σ H' HF2 r s2 => p σ H' HF2 r (s.trans s2)
  | rt d => exact p
  | bk ρ => exact fun σ H' HF2 r s2 => p σ H' HF2 r (s.trans s2)
  | ct ρ => exact fun σ H' HF2 r s2 => p σ H' HF2 r (s.trans s2)
variable {t u : TS} {g h : Gs} {te : TE} {fe : Nv → Option D}
theorem ds_next : DS W tNext nextS := fun H0 HF0 σ H HF ρ o Dn R e p => by
  cases e
  exact p σ H HF R (Same.refl _)
theorem ds_seq (h1 : DS W t g) (h2 : DS W u h) : DS W (tSeq t u) (seqS g h) := by
  intro H0 HF0 σ H HF ρ o Dn R e p
  obtain ⟨o1, e1, e2⟩ := Option.bind_eq_some_iff.mp e
  refine h1 H0 HF0 σ H HF ρ o1 _ R e1 ?_
  cases o1 with
  | nx ρ' => exact fun σ' H' HF' R' s' => h2 H0 HF0 σ' H' HF' ρ' o Dn R' e2 (p.mono s')
  | rt d =>
    cases e2
    exact p
  | bk ρ' =>
    cases e2
    exact p
  | ct ρ' =>
    cases e2
    exact p
theorem ds_asg {g : TG} {js : List Nat} {a : D → Nv → Option Nv} (h : DE W te fe) (hg : DGj W js g a) : DS W (tAsg te g) (asgS fe a) := by
  intro H0 HF0 σ H HF ρ o Dn R e p
  obtain ⟨d, e1, e2⟩ := Option.bind_eq_some_iff.mp e
  obtain ⟨ρ', e3, rfl⟩ := Option.map_eq_some_iff.mp e2
  refine h H0 HF0 σ H HF ρ d _ R e1 fun v H1 HF1 f1 r1 => ?_
  exact hg H0 HF0 σ H1 HF1 ρ ρ' v d _ (R.grow f1) r1 e3 fun σ' R' _ _ => p σ' H1 HF1 R' f1.fro
theorem ds_own {f : Nv → Option (List D)} (i : Nat) (h : DN W te f) : DS W (tAsg te (gName i)) (ownS i f) := by
  intro H0 HF0 σ H HF ρ o Dn R e p
  obtain ⟨ds, e1, rfl⟩ := Option.map_eq_some_iff.mp e
  refine h H0 HF0 σ H HF ρ ds _ R e1 fun a vs H1 HF1 f1 n1 n2 h1 r1 => ?_
  refine p _ H1 HF1 ((R.grow f1).setOwn ⟨a, vs, rfl, n2, R.fz.dom a n1, h1, r1⟩ fun j e' hj hm hb => ?_) f1.fro
  obtain ⟨_, _, o', ho, _⟩ := R.ownAt hj hm hb
  rw [n1] at ho
  cases ho
theorem ds_odi (i : Nat) : DS W (tAsg tDNewK (gName i)) (odiS i) := by
  intro H0 HF0 σ H HF ρ o Dn R e p
  cases e
  intro a ha
  have f1 : Fz W.T H HF HF (upd H a (.dK [])) := Fz.laidO R.fz.sub R.fz.tab R.fz.nt ha
  refine p _ _ HF ((R.grow f1).setOwn (e := .odi []) ⟨a, rfl, Same.free R.fz.sub ha, R.fz.dom a ha, upd_same, fun q hq => absurd hq (by simp)⟩ fun j e' hj hm hb => ?_) (Same.refl _)
  obtain ⟨_, _, o', ho, _⟩ := R.ownAt hj hm hb
  rw [ha] at ho
  cases ho
theorem ds_ret (h : DE W te fe) : DS W (tRet te) (retS fe) := by
  intro H0 HF0 σ H HF ρ o Dn R e p
  obtain ⟨d, e1, rfl⟩ := Option.map_eq_some_iff.mp e
  exact h H0 HF0 σ H HF ρ d _ R e1 fun v H1 HF1 f1 r1 => p v H1 HF1 (R.fz.trans f1) r1
theorem ds_retN : DS W tRetN retNS := fun H0 HF0 σ H HF ρ o Dn R e p => by
  cases e
  exact p .non H HF R.fz .non
theorem ds_if {tc : TT} {c : Nv → Option Bool} (hc : DT W tc c) (h1 : DS W t g) (h2 : DS W u h) : DS W (tIfS tc t u) (ifS c g h) := by
  intro H0 HF0 σ H HF ρ o Dn R e p
  obtain ⟨b, e1, e2⟩ := Option.bind_eq_some_iff.mp e
  refine hc H0 HF0 σ H HF ρ b _ R e1 fun H1 HF1 f1 => ?_
  cases b with
  | true => exact h1 H0 HF0 σ H1 HF1 ρ o Dn (R.grow f1) e2 (p.mono f1.fro)
  | false => exact h2 H0 HF0 σ H1 HF1 ρ o Dn (R.grow f1) e2 (p.mono f1.fro)
theorem ds_never : DS W tNever neverS := fun H0 HF0 σ H HF ρ o Dn R e p => by cases e
theorem ds_brk : DS W tBreak brkS := fun H0 HF0 σ H HF ρ o Dn R e p => by
  cases e
  exact p σ H HF R (Same.refl _)
theorem ds_par {i j : Nat} {ta : TE} {fa : Nv → Option D} (h1 : DE W ta fa) (h2 : DE W te fe) : DS W (tPar i j (tCons ta (tCons te tNil))) (parS i j fa fe) := by
  intro H0 HF0 σ H HF ρ o Dn R e p
  obtain ⟨x, e1, e⟩ := Option.bind_eq_some_iff.mp e
  obtain ⟨y, e2, e⟩ := Option.bind_eq_some_iff.mp e
  cases e
  refine h1 H0 HF0 σ H HF ρ x _ R e1 fun v H1 HF1 f1 r1 => ?_
  refine h2 H0 HF0 σ H1 HF1 ρ y _ (R.grow f1) e2 fun u H2 HF2 f2 r2 => ⟨v, u, rfl, ?_⟩
  have R2 := (R.grow f1).grow f2
  exact p _ H2 HF2 ((R2.set (e := .dat x) (r1.mono f2.fro) rfl).set (e := .dat y) r2 rfl) (f1.trans f2).fro
theorem ds_aug {i : Nat} {ti : TIp} {o : D → D → Option D} (hr : RvD W ti o) (h : DE W te fe) : DS W (tAug i te ti) (augS i fe o) := by
  intro H0 HF0 σ H HF ρ oo Dn R e p
  obtain ⟨x, e1, e⟩ := Option.bind_eq_some_iff.mp e
  obtain ⟨y, e2, e⟩ := Option.bind_eq_some_iff.mp e
  obtain ⟨z, e3, rfl⟩ := Option.map_eq_some_iff.mp e
  obtain ⟨v, h1, h2⟩ := R.at_ i _ (gD_eq e1)
  refine ⟨v, h1, h H0 HF0 σ H HF ρ y _ R e2 fun u H1 HF1 f1 r1 => ?_⟩
  have h2 : Rp W.K HF v x := h2
  refine hr HF1 H1 v u x y z _ f1.gd (h2.mono f1.fro) r1 e3 fun w H2 HF2 f2 r2 => ?_
  exact p _ H2 HF2 (((R.grow f1).grow f2).set (e := .dat z) r2 rfl) (f1.trans f2).fro
theorem rv_ipI {g : Int → Int → Int} : RvD W (ipI g) (oI g) := fun HF H x y dx dy dz Q gd hx hy e q => rv_I0 HF H x y dx dy dz Q gd hx hy e q
theorem ds_while (n : Nat) {tc : TT} {c : Nv → Option Bool} (hc : DT W tc c) (h1 : DS W t g) : DS W (tWhile tc t) (whS c g n) := by
  intro H0 HF0 σ H HF ρ o Dn R e p
  refine ⟨fun m σ' H' => ∃ HF' ρ', Rel W H0 HF0 σ' H' HF' ρ' ∧ Same HF HF' ∧ whS c g m ρ' = some o, ⟨n, HF, ρ, R, Same.refl _, e⟩, ?_⟩
  rintro m σ' H' ⟨HF', ρ', R', s', e'⟩
  cases m with
  | zero => cases e'
  | succ k =>
    obtain ⟨b, e1, e2⟩ := Option.bind_eq_some_iff.mp (show (c ρ').bind _ = some o from e')
    refine hc H0 HF0 σ' H' HF' ρ' b _ R' e1 fun H1 HF1 f1 => ?_
    cases b with
    | false =>
      rw [if_neg Bool.false_ne_true] at e2 ⊢
      cases e2
      exact p σ' H1 HF1 (R'.grow f1) (s'.trans f1.fro)
    | true =>
      rw [if_pos rfl] at e2 ⊢
      obtain ⟨o1, e3, e4⟩ := Option.bind_eq_some_iff.mp e2
      refine ⟨fun σ2 H2 => ∃ HF2 ρ2, Rel W H0 HF0 σ2 H2 HF2 ρ2 ∧ Same HF HF2 ∧ whS c g k ρ2 = some o, fun σ2 H2 ⟨HF2, ρ2, r2, s2, z2⟩ => ⟨k, Nat.lt_succ_self _, HF2, ρ2, r2, s2, z2⟩, ?_⟩
      refine h1 H0 HF0 σ' H1 HF1 ρ' o1 _ (R'.grow f1) e3 ?_
      cases o1 with
      | nx ρ2 => exact fun σ2 H2 HF2 r2 s2 => ⟨HF2, ρ2, r2, (s'.trans f1.fro).trans s2, e4⟩
      | ct ρ2 => exact fun σ2 H2 HF2 r2 s2 => ⟨HF2, ρ2, r2, (s'.trans f1.fro).trans s2, e4⟩
      | bk ρ2 =>
        cases e4
        exact fun σ2 H2 HF2 r2 s2 => p σ2 H2 HF2 r2 ((s'.trans f1.fro).trans s2)
      | rt d =>
        cases e4
        exact p
theorem ds_for {wi : TI} {fi : Nv → Option (List D)} {gt : TG} {js : List Nat} {a : D → Nv → Option Nv} (hi : DI W wi fi) (hg : DGj W js gt a) (h1 : DS W t g) : DS W (tFor wi gt t) (forS fi a g) := by
  intro H0 HF0 σ H HF ρ o Dn R e p
  obtain ⟨ds, e1, e2⟩ := Option.bind_eq_some_iff.mp e
  refine hi H0 HF0 σ H HF ρ ds _ R e1 fun J H1 HF1 f1 wd => ?_
  refine ⟨fun i m σ' H' => m = ds.length - i ∧ i ≤ ds.length ∧ ∃ HF' ρ', Rel W H0 HF0 σ' H' HF' ρ' ∧ Same HF1 HF' ∧ foS a g (ds.drop i) ρ' = some o, ⟨_, rfl, Nat.zero_le _, HF1, ρ, R.grow f1, Same.refl _, by rw [List.drop_zero]; exact e2⟩, ?_⟩
  rintro i m σ' H' ⟨rfl, hi2, HF', ρ', R', s', e'⟩
  by_cases hlt : i < ds.length
  · obtain ⟨d, hd, hdr⟩ := drop_cons hlt
    rw [hdr] at e'
    obtain ⟨ρ1, e3, e4⟩ := Option.bind_eq_some_iff.mp (show (a d ρ').bind _ = some o from e')
    obtain ⟨o1, e5, e6⟩ := Option.bind_eq_some_iff.mp e4
    refine .inr ⟨wd.go i H' (s'.trans R'.fz.sub) hlt, fun σ2 H2 => i + 1 ≤ ds.length ∧ ∃ HF2 ρ2, Rel W H0 HF0 σ2 H2 HF2 ρ2 ∧ Same HF1 HF2 ∧ foS a g (ds.drop (i + 1)) ρ2 = some o, fun σ2 H2 h => ⟨ds.length - (i + 1), by omega, rfl, h.1, h.2⟩, fun x H2 hy => ?_⟩
    obtain ⟨rfl, d', hd', hx⟩ := wd.yld i H' x H2 (s'.trans R'.fz.sub) hlt hy
    rw [hd] at hd'
    cases hd'
    refine hg H0 HF0 σ' H2 HF' ρ' ρ1 x d _ R' (hx.mono s') e3 fun σ3 R3 _ _ => ?_
    refine h1 H0 HF0 σ3 H2 HF' ρ1 o1 _ R3 e5 ?_
    cases o1 with
    | nx ρ2 => exact fun σ4 H4 HF4 r4 s4 => ⟨hlt, HF4, ρ2, r4, s'.trans s4, e6⟩
    | ct ρ2 => exact fun σ4 H4 HF4 r4 s4 => ⟨hlt, HF4, ρ2, r4, s'.trans s4, e6⟩
    | bk ρ2 =>
      cases e6
      exact fun σ4 H4 HF4 r4 s4 => p σ4 H4 HF4 r4 ((f1.fro.trans s').trans s4)
    | rt d2 =>
      cases e6
      exact p
  · have ei : i = ds.length := by omega
    subst ei
    rw [List.drop_length] at e'
    cases e'
    exact .inl ⟨wd.stop H' (s'.trans R'.fz.sub), p σ' H' HF' R' (f1.fro.trans s')⟩
theorem ds_frz (i : Nat) (h1 : DS W t g) : DS W t (frzS i g) := by
  intro H0 HF0 σ H HF ρ o Dn R e p
  obtain ⟨ds, e1, e2⟩ := Option.bind_eq_some_iff.mp e
  obtain ⟨HF', R', s'⟩ := R.freeze (gO_eq e1)
  exact h1 H0 HF0 σ H HF' _ o Dn R' e2 (p.mono s')

/-! ### own lists and dicts -/
theorem ownAt {H0 HF0 : Hp} {σ : Sg} {H HF : Hp} {ρ : Nv} {i : Nat} {ds : List D} (R : Rel W H0 HF0 σ H HF ρ) (h : gO i ρ = some ds) : ∃ a vs, σ[i]? = some (some (.ref a)) ∧ HF a = none ∧ H0 a = none ∧ H a = some (.lst vs) ∧ RpL W.K HF vs ds := by
  obtain ⟨v, h1, a, vs, rfl, h3, h4, h5, h6⟩ := R.at_ i _ (gO_eq h)
  exact ⟨a, vs, h1, h3, h4, h5, h6⟩
theorem odiAt {H0 HF0 : Hp} {σ : Sg} {H HF : Hp} {ρ : Nv} {i : Nat} {kv : List (Key × V)} (R : Rel W H0 HF0 σ H HF ρ) (h : gK i ρ = some kv) : ∃ a, σ[i]? = some (some (.ref a)) ∧ HF a = none ∧ H0 a = none ∧ H a = some (.dK kv) ∧ ∀ q ∈ kv, scl q.2 = true := by
  obtain ⟨v, h1, a, rfl, h3, h4, h5, h6⟩ := R.at_ i _ (gK_eq h)
  exact ⟨a, h1, h3, h4, h5, h6⟩
def lenO (i : Nat) (ρ : Nv) : Option D := (gO i ρ).map fun ds => .int ds.length
def ixO (i : Nat) (f : Nv → Option D) (ρ : Nv) : Option D := (gO i ρ).bind fun ds => ((f ρ).bind iD).bind fun k => atI ds k
def inO (neg : Bool) (f : Nv → Option D) (i : Nat) (ρ : Nv) : Option D := (f ρ).bind fun x => (gO i ρ).bind fun ds => oIn neg x (.list ds)
def eqO (neg : Bool) (i : Nat) (f : Nv → Option D) (ρ : Nv) : Option D := (gO i ρ).bind fun ds => (f ρ).bind fun y => oEqD neg (.list ds) y
theorem de_lenO (i : Nat) : DE W (tCB (fun xs H Q => ∃ p ys, xs = [.ref p] ∧ (SqL W.K H p ys ∨ SqT W.K H p ys) ∧ Q (.int ys.length) H) (tCons (tVar i) tNil)) (lenO i) := by
  intro H0 HF0 σ H HF ρ d Q R e q
  obtain ⟨ds, e1, rfl⟩ := Option.map_eq_some_iff.mp e
  obtain ⟨a, vs, h1, h2, h3, h4, h5⟩ := ownAt R e1
  refine ⟨_, h1, a, vs, rfl, .inl (SqL.of h4), ?_⟩
  rw [h5.length]
  exact q _ H HF R.gd.fz (.int _)
theorem de_ixO (i : Nat) (h : DE W te fe) : DE W (tOp (rIx W.K) (tVar i) te) (ixO i fe) := by
  intro H0 HF0 σ H HF ρ d Q R e q
  obtain ⟨ds, e1, e⟩ := Option.bind_eq_some_iff.mp e
  obtain ⟨k, e2, e3⟩ := Option.bind_eq_some_iff.mp e
  obtain ⟨y, e4, e5⟩ := Option.bind_eq_some_iff.mp e2
  obtain ⟨a, vs, h1, h2, h3, h4, h5⟩ := ownAt R e1
  refine ⟨_, h1, h H0 HF0 σ H HF ρ y _ R e4 fun u H1 HF1 f1 r1 => ?_⟩
  rw [iD_some e5] at r1
  obtain ⟨v, x1, x2⟩ := h5.atI e3
  exact .inl ⟨a, vs, k, v, rfl, r1.int_inv, SqL.of (f1.keepsD h4 h2).1, x1, q v H1 HF1 f1 (x2.mono f1.fro)⟩
theorem de_inO {neg : Bool} (i : Nat) (h : DE W te fe) : DE W (tOp (rIn W.K neg) te (tVar i)) (inO neg fe i) := by
  intro H0 HF0 σ H HF ρ d Q R e q
  obtain ⟨x, e1, e⟩ := Option.bind_eq_some_iff.mp e
  obtain ⟨ds, e2, e3⟩ := Option.bind_eq_some_iff.mp e
  obtain ⟨a, vs, h1, h2, h3, h4, h5⟩ := ownAt R e2
  refine h H0 HF0 σ H HF ρ x _ R e1 fun u H1 HF1 f1 r1 => ⟨_, h1, ?_⟩
  have e4 : (if (flatD x && ds.all flatD) = true then some (PyData.bool (if neg = true then !(ds.any fun z => PyData.eqv z x) else ds.any fun z => PyData.eqv z x)) else none) = some d := e3
  by_cases hf : (flatD x && ds.all flatD) = true
  · rw [if_pos hf] at e4
    obtain ⟨k1, k2⟩ := Bool.and_eq_true_iff.mp hf
    cases e4
    have h6 := h5.mono f1.fro
    exact ⟨a, vs, rfl, .inl (SqL.of (f1.keepsD h4 h2).1), flat_of r1 k1, flatAll_of h6 k2, by rw [inV_of r1 k1 h6 k2]; exact q _ H1 HF1 f1 (.bl _)⟩
  · rw [if_neg hf] at e4
    cases e4
theorem own_dp {HF H : Hp} {a : Addr} {vs : List V} {ds : List D} (gd : Gd W HF H) (h4 : H a = some (.lst vs)) (h5 : RpL W.K HF vs ds) (s : SeqAt.shaped (.list ds) = true) : Dp W.K H (.ref a) (.list ds) := by
  have c := SeqAt.canLay_of_shaped s
  exact .lst (SqL.of h4) ((h5.mono gd.sub).dp (by simpa [PyData.canLay0] using c))
theorem de_eqO (i : Nat) (h : DE W te fe) : DE W (tOp (rEqD W.K) (tVar i) te) (eqO false i fe) := by
  intro H0 HF0 σ H HF ρ d Q R e q
  obtain ⟨ds, e1, e⟩ := Option.bind_eq_some_iff.mp e
  obtain ⟨y, e2, e3⟩ := Option.bind_eq_some_iff.mp e
  obtain ⟨a, vs, h1, h2, h3, h4, h5⟩ := ownAt R e1
  refine ⟨_, h1, h H0 HF0 σ H HF ρ y _ R e2 fun u H1 HF1 f1 r1 => ?_⟩
  obtain ⟨s1, s2, rfl⟩ := oEqD_some e3
  exact ⟨.list ds, y, own_dp f1.gd (f1.keepsD h4 h2).1 (h5.mono f1.fro) s1, (r1.mono f1.sub).dp (SeqAt.canLay_of_shaped s2), s1, s2, q _ H1 HF1 f1 (.bl _)⟩
theorem de_neO (i : Nat) (h : DE W te fe) : DE W (tOp (rNeD W.K) (tVar i) te) (eqO true i fe) := by
  intro H0 HF0 σ H HF ρ d Q R e q
  obtain ⟨ds, e1, e⟩ := Option.bind_eq_some_iff.mp e
  obtain ⟨y, e2, e3⟩ := Option.bind_eq_some_iff.mp e
  obtain ⟨a, vs, h1, h2, h3, h4, h5⟩ := ownAt R e1
  refine ⟨_, h1, h H0 HF0 σ H HF ρ y _ R e2 fun u H1 HF1 f1 r1 => ?_⟩
  obtain ⟨s1, s2, rfl⟩ := oEqD_some e3
  exact ⟨.list ds, y, own_dp f1.gd (f1.keepsD h4 h2).1 (h5.mono f1.fro) s1, (r1.mono f1.sub).dp (SeqAt.canLay_of_shaped s2), s1, s2, q _ H1 HF1 f1 (.bl _)⟩
/-- xs.append(e) -/
def appS (i : Nat) (f : Nv → Option D) (ρ : Nv) : Option Out := (gO i ρ).bind fun ds => (f ρ).bind fun x => if ds.length ≤ lim then some (.nx (ρ.set i (some (.own (ds ++ [x]))))) else none
theorem ds_app (i : Nat) (h : DE W te fe) : DS W (tDrop (tBM W.K "list" rAppend (tVar i) (tCons te tNil))) (appS i fe) := by
  intro H0 HF0 σ H HF ρ o Dn R e p
  obtain ⟨ds, e1, e⟩ := Option.bind_eq_some_iff.mp e
  obtain ⟨x, e2, e3⟩ := Option.bind_eq_some_iff.mp e
  obtain ⟨a, vs, h1, h2, h3, h4, h5⟩ := ownAt R e1
  by_cases hl : ds.length ≤ lim
  · rw [if_pos hl] at e3
    cases e3
    refine ⟨_, h1, .inl ⟨rfl, vs, SqL.of h4⟩, h H0 HF0 σ H HF ρ x _ R e2 fun u H1 HF1 f1 r1 => ?_⟩
    obtain ⟨k1, k2⟩ := f1.keepsD h4 h2
    refine ⟨a, vs, u, rfl, rfl, k1, by rw [h5.length]; exact lim_lt hl, ?_⟩
    exact p σ _ HF1 ((R.grow f1).write (e' := .own (ds ++ [x])) (gO_eq e1) rfl h1 ⟨a, vs ++ [u], rfl, k2, h3, upd_same, (h5.mono f1.fro).app (.cons r1 .nil)⟩ rfl) f1.fro
  · rw [if_neg hl] at e3
    cases e3
/-- xs.extend(a new list) -/
def extS (i : Nat) (f : Nv → Option (List D)) (ρ : Nv) : Option Out := (gO i ρ).bind fun ds => (f ρ).bind fun es => if ds.length + es.length ≤ lim then some (.nx (ρ.set i (some (.own (ds ++ es))))) else none
theorem ds_ext {f : Nv → Option (List D)} (i : Nat) (h : DN W te f) : DS W (tDrop (tBM W.K "list" rExtend (tVar i) (tCons te tNil))) (extS i f) := by
  intro H0 HF0 σ H HF ρ o Dn R e p
  obtain ⟨ds, e1, e⟩ := Option.bind_eq_some_iff.mp e
  obtain ⟨es, e2, e3⟩ := Option.bind_eq_some_iff.mp e
  obtain ⟨a, vs, h1, h2, h3, h4, h5⟩ := ownAt R e1
  by_cases hl : ds.length + es.length ≤ lim
  · rw [if_pos hl] at e3
    cases e3
    refine ⟨_, h1, .inl ⟨rfl, vs, SqL.of h4⟩, h H0 HF0 σ H HF ρ es _ R e2 fun b ws H1 HF1 f1 _ n2 hb r1 => ?_⟩
    obtain ⟨k1, k2⟩ := f1.keepsD h4 h2
    refine ⟨a, b, vs, ws, rfl, rfl, k1, hb, by rw [h5.length, r1.length]; exact lim_le hl, ?_⟩
    exact p σ _ HF1 ((R.grow f1).write (e' := .own (ds ++ es)) (gO_eq e1) rfl h1 ⟨a, vs ++ ws, rfl, k2, h3, upd_same, (h5.mono f1.fro).app r1⟩ rfl) f1.fro
  · rw [if_neg hl] at e3
    cases e3
/-- xs[k] = e -/
def setS (i : Nat) (fi f : Nv → Option D) (ρ : Nv) : Option Out := (f ρ).bind fun x => (gO i ρ).bind fun ds => ((fi ρ).bind iD).bind fun k => (ixN ds.length k).map fun j => .nx (ρ.set i (some (.own (ds.set j x))))
theorem ds_set {ti : TE} {fi : Nv → Option D} (i : Nat) (hi : DE W ti fi) (h : DE W te fe) : DS W (tAsg te (gSub (tVar i) ti rSetL)) (setS i fi fe) := by
  intro H0 HF0 σ H HF ρ o Dn R e p
  obtain ⟨x, e1, e⟩ := Option.bind_eq_some_iff.mp e
  obtain ⟨ds, e2, e⟩ := Option.bind_eq_some_iff.mp e
  obtain ⟨k, e3, e⟩ := Option.bind_eq_some_iff.mp e
  obtain ⟨y, e4, e5⟩ := Option.bind_eq_some_iff.mp e3
  obtain ⟨j, e6, rfl⟩ := Option.map_eq_some_iff.mp e
  obtain ⟨a, vs, h1, h2, h3, h4, h5⟩ := ownAt R e2
  refine h H0 HF0 σ H HF ρ x _ R e1 fun u H1 HF1 f1 r1 => ⟨_, h1, hi H0 HF0 σ H1 HF1 ρ y _ (R.grow f1) e4 fun w H2 HF2 f2 r2 => ?_⟩
  rw [iD_some e5] at r2
  obtain ⟨k1, k2⟩ := (f1.trans f2).keepsD h4 h2
  refine ⟨a, vs, k, j, rfl, r2.int_inv, k1, by rw [h5.length]; exact e6, ?_⟩
  exact p σ _ HF2 ((R.grow (f1.trans f2)).write (e' := .own (ds.set j x)) (gO_eq e2) rfl h1 ⟨a, vs.set j u, rfl, k2, h3, upd_same, RpL.set (r1.mono f2.fro) j (h5.mono (f1.trans f2).fro)⟩ rfl) (f1.trans f2).fro
/-- xs[k] += e, ints -/
def rGetL : V → V → Hp → VK → Prop := fun o i H Q => ∃ p xs k v, o = .ref p ∧ i = .int k ∧ H p = some (.lst xs) ∧ 0 ≤ k ∧ atI xs k = some v ∧ Q v H
theorem get_list {X : Cx} : PGet X rGetL := by
  intro pins s σ H o i ov iv Q I ro ri h
  obtain ⟨p, xs, k, v, rfl, rfl, hH, h0, ha, q⟩ := h
  cases ro
  obtain ⟨t, rfl⟩ := ri
  obtain ⟨j, h1, h2, h3, h4, h5⟩ := atI_get ha
  obtain ⟨its, r, pl, hz⟩ := I.list (SqL.of hH)
  obtain ⟨u, hu, ru⟩ := r.get h2
  have hn := line63
  have hj : k.toNat = j := by
    rw [seqIndex_of h0 h5] at h1
    exact Option.some.inj h1
  refine wpAny_getItem_list pl.isList h0 (by omega) (by rw [hj]; simpa using hu) ⟨v, H, I, ru, q⟩
def augLS (i : Nat) (fi : Nv → Option D) (g : Int → Int → Int) (f : Nv → Option D) (ρ : Nv) : Option Out := (gO i ρ).bind fun ds => (((fi ρ).bind iD).bind fun k => if 0 ≤ k then some k else none).bind fun k => ((atI ds k).bind iD).bind fun x => ((f ρ).bind iD).bind fun y => (ixN ds.length k).map fun j => .nx (ρ.set i (some (.own (ds.set j (.int (g x y))))))
theorem ds_augL {ti : TE} {fi : Nv → Option D} {gg : Int → Int → Int} (i : Nat) (hi : DE W ti fi) (h : DE W te fe) : DS W (tAugS (tVar i) ti te rGetL (ipI gg) rSetL) (augLS i fi gg fe) := by
  intro H0 HF0 σ H HF ρ o Dn R e p
  obtain ⟨ds, e1, e⟩ := Option.bind_eq_some_iff.mp e
  obtain ⟨k, e2, e⟩ := Option.bind_eq_some_iff.mp e
  obtain ⟨x, e3, e⟩ := Option.bind_eq_some_iff.mp e
  obtain ⟨y, e4, e⟩ := Option.bind_eq_some_iff.mp e
  obtain ⟨j, e5, rfl⟩ := Option.map_eq_some_iff.mp e
  obtain ⟨k0, e20, e21⟩ := Option.bind_eq_some_iff.mp e2
  have hk0 : 0 ≤ k ∧ k0 = k := by
    by_cases z : 0 ≤ k0
    · rw [if_pos z] at e21
      cases e21
      exact ⟨z, rfl⟩
    · rw [if_neg z] at e21
      cases e21
  obtain ⟨hk0, rfl⟩ := hk0
  obtain ⟨k', e6, e7⟩ := Option.bind_eq_some_iff.mp e20
  obtain ⟨x', e8, e9⟩ := Option.bind_eq_some_iff.mp e3
  obtain ⟨y', e10, e11⟩ := Option.bind_eq_some_iff.mp e4
  obtain ⟨a, vs, h1, h2, h3, h4, h5⟩ := ownAt R e1
  refine ⟨_, h1, hi H0 HF0 σ H HF ρ k' _ R e6 fun w H1 HF1 f1 r1 => ?_⟩
  rw [iD_some e7] at r1
  obtain ⟨v, x1, x2⟩ := h5.atI e8
  rw [iD_some e9] at x2
  obtain ⟨k1, k2⟩ := f1.keepsD h4 h2
  refine ⟨a, vs, k0, v, rfl, r1.int_inv, k1, hk0, x1, h H0 HF0 σ H1 HF1 ρ y' _ (R.grow f1) e10 fun u H2 HF2 f2 r2 => ?_⟩
  rw [iD_some e11] at r2
  obtain ⟨k3, k4⟩ := f2.keepsD k1 k2
  refine ⟨x, y, x2.int_inv, r2.int_inv, a, vs, k0, j, rfl, r1.int_inv, k3, by rw [h5.length]; exact e5, ?_⟩
  exact p σ _ HF2 ((R.grow (f1.trans f2)).write (e' := .own (ds.set j (.int (gg x y)))) (gO_eq e1) rfl h1 ⟨a, vs.set j (.int (gg x y)), rfl, k4, h3, upd_same, RpL.set (.int _) j (h5.mono (f1.trans f2).fro)⟩ rfl) (f1.trans f2).fro
end
end Qd
end
section
set_option Elab.async false
set_option linter.all false
set_option autoImplicit false
set_option maxRecDepth 100000
set_option maxHeartbeats 2000000
/-! Q6: dicts of scalars, own lists two at once, calls that borrow an own thing. -/
namespace Qd
open PySem
open PySem.Spec
open PyProof.Rows
open L2
open LamX (ExtN Tabs TabS)

def isKey (i : Int) : D → Bool
  | .int j => decide (j = i)
  | _ => false
def dGet (kvs : List (D × D)) (i : Int) : Option D := (kvs.find? fun q => isKey i q.1).map (·.2)
theorem isKey_kD (i : Int) (k : Key) : isKey i (kD k) = decide (k = Sum.inl i) := by
  cases k with
  | inl j =>
    show decide (j = i) = _
    by_cases h : j = i
    · subst h; simp
    · have h2 : ¬ (Sum.inl j : Key) = Sum.inl i := fun z => h (Sum.inl.inj z)
      rw [decide_eq_false h, decide_eq_false h2]
  | inr x => exact (decide_eq_false (fun z => nomatch z)).symm
theorem dGet_enc (i : Int) : ∀ kv : List (Key × V), dGet (encK kv) i = (valV kv (.inl i)).map vD
  | [] => rfl
  | (k, v) :: r => by
    have ih := dGet_enc i r
    unfold dGet valV encK at ih ⊢
    rw [List.map_cons, List.find?_cons, List.find?_cons, isKey_kD]
    cases h : decide (k = Sum.inl i) with
    | true => rfl
    | false => exact ih
theorem rp_scl {K : PySem.W.Frag} {H : Hp} {v : V} (h : scl v = true) : Rp K H v (vD v) := by
  cases v <;> first | (cases h; done) | skip
  · exact .non
  · exact .bl _
  · exact .int _
  · exact .str _
theorem valV_scl {kv : List (Key × V)} {k : Key} {v : V} (hs : ∀ q ∈ kv, scl q.2 = true) (h : valV kv k = some v) : scl v = true := by
  unfold valV at h
  obtain ⟨q, h1, rfl⟩ := Option.map_eq_some_iff.mp h
  exact hs q (List.mem_of_find?_eq_some h1)
def oDin (neg : Bool) : D → D → Option D
  | .int i, .dict kvs => some (.bool (if neg = true then !(dGet kvs i).isSome else (dGet kvs i).isSome))
  | _, _ => none
def oDget : D → D → Option D
  | .dict kvs, .int i => dGet kvs i
  | _, _ => none
def dV : D → V
  | .none => .non
  | .bool b => .bl b
  | .int i => .int i
  | .str s => .str s
  | _ => .non
theorem flat_dV {K : PySem.W.Frag} {H : Hp} {v : V} {d : D} (h : Rp K H v d) (f : flatD d = true) : v = dV d ∧ scl v = true := by
  cases h <;> first | (cases f; done) | exact ⟨rfl, rfl⟩
section
variable {W : Wd} {ta te : TE} {fa fe : Nv → Option D}
theorem dgetEnc {H : Hp} {a : Addr} {kv : List (Key × V)} (i : Int) (h : H a = some (.dK kv)) : DGet H a (.int i) (valV kv (.inl i)) := DGet.k (k := .inl i) h
theorem isSome_map {α β : Type} (o : Option α) (f : α → β) : (o.map f).isSome = o.isSome := by cases o <;> rfl
theorem de_din (ha : DE W ta fa) (he : DE W te fe) : DE W (tDIn ta te) (b2 fa fe (oDin false)) := by
  intro H0 HF0 σ H HF ρ d Q R e q
  obtain ⟨x, y, e1, e2, e3⟩ := b2_some e
  refine ha H0 HF0 σ H HF ρ x _ R e1 fun v H1 HF1 f1 r1 => ?_
  refine he H0 HF0 σ H1 HF1 ρ y _ (R.grow f1) e2 fun u H2 HF2 f2 r2 => ?_
  cases x <;> cases y <;> first | (cases e3; done) | skip
  rename_i i kvs
  cases e3
  obtain ⟨a, kv, rfl, hd, hs, rfl⟩ := r2.dic_inv
  refine ⟨a, valV kv (.inl i), rfl, by rw [r1.int_inv]; exact dgetEnc i (f2.sub _ _ hd), ?_⟩
  have z := dGet_enc i kv
  rw [z, isSome_map] at q
  exact q _ H2 HF2 (f1.trans f2) (.bl _)
theorem de_dnotin (ha : DE W ta fa) (he : DE W te fe) : DE W (tDNotIn ta te) (b2 fa fe (oDin true)) := by
  intro H0 HF0 σ H HF ρ d Q R e q
  obtain ⟨x, y, e1, e2, e3⟩ := b2_some e
  refine ha H0 HF0 σ H HF ρ x _ R e1 fun v H1 HF1 f1 r1 => ?_
  refine he H0 HF0 σ H1 HF1 ρ y _ (R.grow f1) e2 fun u H2 HF2 f2 r2 => ?_
  cases x <;> cases y <;> first | (cases e3; done) | skip
  rename_i i kvs
  cases e3
  obtain ⟨a, kv, rfl, hd, hs, rfl⟩ := r2.dic_inv
  refine ⟨a, valV kv (.inl i), rfl, by rw [r1.int_inv]; exact dgetEnc i (f2.sub _ _ hd), ?_⟩
  have z := dGet_enc i kv
  rw [z, isSome_map] at q
  exact q _ H2 HF2 (f1.trans f2) (.bl _)
theorem de_dget (he : DE W te fe) (ha : DE W ta fa) : DE W (tDGet te ta) (b2 fe fa oDget) := by
  intro H0 HF0 σ H HF ρ d Q R e q
  obtain ⟨x, y, e1, e2, e3⟩ := b2_some e
  refine he H0 HF0 σ H HF ρ x _ R e1 fun v H1 HF1 f1 r1 => ?_
  refine ha H0 HF0 σ H1 HF1 ρ y _ (R.grow f1) e2 fun u H2 HF2 f2 r2 => ?_
  cases x <;> cases y <;> first | (cases e3; done) | skip
  rename_i kvs i
  obtain ⟨a, kv, rfl, hd, hs, rfl⟩ := (r1.mono f2.fro).dic_inv
  have e4 : dGet (encK kv) i = some d := e3
  rw [dGet_enc] at e4
  obtain ⟨z, e5, rfl⟩ := Option.map_eq_some_iff.mp e4
  refine ⟨a, z, rfl, by rw [r2.int_inv, ← e5]; exact dgetEnc i (f2.sub _ _ hd), q _ H2 HF2 (f1.trans f2) (rp_scl (valV_scl hs e5))⟩
theorem Fz.keepsK {T : List (Addr × Str)} {H HF HF' H' : Hp} {a : Addr} {kv : List (Key × V)} (f : Fz T H HF HF' H') (h : H a = some (.dK kv)) (hF : HF a = none) : H' a = some (.dK kv) ∧ HF' a = none :=
  ⟨f.ext a _ h (fun ps z => by cases z), fz_none f hF h (fun ps z => by cases z)⟩
/-- x in d, d an own dict -/
def dinO (neg : Bool) (f : Nv → Option D) (i : Nat) (ρ : Nv) : Option D := ((f ρ).bind iD).bind fun k => (gK i ρ).map fun kv => .bool (if neg = true then !(valV kv (.inl k)).isSome else (valV kv (.inl k)).isSome)
theorem de_dinO (i : Nat) (ha : DE W ta fa) : DE W (tDIn ta (tVar i)) (dinO false fa i) := by
  intro H0 HF0 σ H HF ρ d Q R e q
  obtain ⟨k, e1, e2⟩ := Option.bind_eq_some_iff.mp e
  obtain ⟨kv, e3, rfl⟩ := Option.map_eq_some_iff.mp e2
  obtain ⟨x, e4, e5⟩ := Option.bind_eq_some_iff.mp e1
  obtain ⟨a, h1, h2, h3, h4, h5⟩ := odiAt R e3
  refine ha H0 HF0 σ H HF ρ x _ R e4 fun v H1 HF1 f1 r1 => ⟨_, h1, a, _, rfl, ?_, q _ H1 HF1 f1 (.bl _)⟩
  rw [iD_some e5] at r1
  rw [r1.int_inv]
  exact dgetEnc k (f1.keepsK h4 h2).1
theorem de_dnotinO (i : Nat) (ha : DE W ta fa) : DE W (tDNotIn ta (tVar i)) (dinO true fa i) := by
  intro H0 HF0 σ H HF ρ d Q R e q
  obtain ⟨k, e1, e2⟩ := Option.bind_eq_some_iff.mp e
  obtain ⟨kv, e3, rfl⟩ := Option.map_eq_some_iff.mp e2
  obtain ⟨x, e4, e5⟩ := Option.bind_eq_some_iff.mp e1
  obtain ⟨a, h1, h2, h3, h4, h5⟩ := odiAt R e3
  refine ha H0 HF0 σ H HF ρ x _ R e4 fun v H1 HF1 f1 r1 => ⟨_, h1, a, _, rfl, ?_, q _ H1 HF1 f1 (.bl _)⟩
  rw [iD_some e5] at r1
  rw [r1.int_inv]
  exact dgetEnc k (f1.keepsK h4 h2).1
/-- d[k] = e, d an own dict, e a scalar -/
def dputS (i : Nat) (fk f : Nv → Option D) (ρ : Nv) : Option Out := (f ρ).bind fun x => (gK i ρ).bind fun kv => ((fk ρ).bind iD).bind fun k => if flatD x = true ∧ kv.length ≤ lim then some (.nx (ρ.set i (some (.odi (putK kv (.inl k) (dV x)))))) else none
theorem putK_scl {kv : List (Key × V)} {k : Key} {v : V} (hs : ∀ q ∈ kv, scl q.2 = true) (hv : scl v = true) : ∀ q ∈ putK kv k v, scl q.2 = true := by
  intro q hq
  unfold putK at hq
  split at hq
  · obtain ⟨p, hp, rfl⟩ := List.mem_map.mp hq
    by_cases e : p.1 = k
    · rw [if_pos e]
      exact hv
    · rw [if_neg e]
      exact hs p hp
  · rcases List.mem_append.mp hq with h | h
    · exact hs q h
    · rw [List.mem_singleton.mp h]
      exact hv
theorem ds_dput {tk : TE} {fk : Nv → Option D} (i : Nat) (hk : DE W tk fk) (h : DE W te fe) : DS W (sDPut (tVar i) tk te) (dputS i fk fe) := by
  intro H0 HF0 σ H HF ρ o Dn R e p
  obtain ⟨x, e1, e⟩ := Option.bind_eq_some_iff.mp e
  obtain ⟨kv, e2, e⟩ := Option.bind_eq_some_iff.mp e
  obtain ⟨k, e3, e⟩ := Option.bind_eq_some_iff.mp e
  obtain ⟨y, e4, e5⟩ := Option.bind_eq_some_iff.mp e3
  by_cases hc : flatD x = true ∧ kv.length ≤ lim
  · rw [if_pos hc] at e
    cases e
    obtain ⟨a, h1, h2, h3, h4, h5⟩ := odiAt R e2
    refine h H0 HF0 σ H HF ρ x _ R e1 fun u H1 HF1 f1 r1 => ⟨_, h1, hk H0 HF0 σ H1 HF1 ρ y _ (R.grow f1) e4 fun w H2 HF2 f2 r2 => ?_⟩
    rw [iD_some e5] at r2
    obtain ⟨k1, k2⟩ := (f1.trans f2).keepsK h4 h2
    obtain ⟨z1, z2⟩ := flat_dV r1 hc.1
    refine ⟨a, _, rfl, by rw [r2.int_inv]; exact DPut.k (k := .inl k) k1 (lim_lt hc.2), ?_⟩
    rw [z1]
    exact p σ _ HF2 ((R.grow (f1.trans f2)).write (e' := .odi (putK kv (.inl k) (dV x))) (gK_eq e2) rfl h1 ⟨a, rfl, k2, h3, upd_same, putK_scl h5 (z1 ▸ z2)⟩ rfl) (f1.trans f2).fro
  · rw [if_neg hc] at e
    cases e
/-- an own dict becomes plain data -/
def frkS (i : Nat) (g : Gs) (ρ : Nv) : Option Out := (gK i ρ).bind fun kv => g (ρ.set i (some (.dat (.dict (encK kv)))))
theorem Rel.freezeK {H0 HF0 : Hp} {σ : Sg} {H HF : Hp} {ρ : Nv} (r : Rel W H0 HF0 σ H HF ρ) {i : Nat} {kv : List (Key × V)} (h : ρ[i]? = some (some (.odi kv))) : ∃ HF', Rel W H0 HF0 σ H HF' (ρ.set i (some (.dat (.dict (encK kv))))) ∧ Same HF HF' := by
  obtain ⟨v, h1, a, rfl, e2, e3, e4, e5⟩ := r.at_ i _ h
  have sF : Same HF (upd HF a (.dK kv)) := upd_sameN e2
  have f' : Fz W.T H0 HF0 (upd HF a (.dK kv)) H := r.fz.known e2 e4 e3 (fun ps z => by cases z)
  refine ⟨upd HF a (.dK kv), ⟨f', by rw [List.length_set]; exact r.len, fun j e' hj => ?_, fun j k x1 x2 b hjk k1 k2 m1 m2 => ?_⟩, sF⟩
  · rcases set_some hj with ⟨rfl, hl, rfl⟩ | ⟨hn, hj⟩
    · exact ⟨.ref a, h1, .dic upd_same e5⟩
    · obtain ⟨v', q1, q2⟩ := r.at_ j e' hj
      refine ⟨v', q1, ?_⟩
      cases e' with
      | dat d => exact Rp.mono sF q2
      | fn G => exact FnIs.mono sF q2
      | own ds' =>
        obtain ⟨b, ws, x1, x2, x3, x4, x5⟩ := q2
        subst x1
        have nb : b ≠ a := fun z => by
          subst z
          exact r.sep j i _ _ b (Ne.symm hn) hj h rfl rfl q1 h1
        exact ⟨b, ws, rfl, by rw [upd_ne nb]; exact x2, x3, x4, RpL.mono sF x5⟩
      | odi kv =>
        obtain ⟨b, x1, x2, x3, x4, x5⟩ := q2
        subst x1
        have nb : b ≠ a := fun z => by
          subst z
          exact r.sep j i _ _ b (Ne.symm hn) hj h rfl rfl q1 h1
        exact ⟨b, rfl, by rw [upd_ne nb]; exact x2, x3, x4, x5⟩
  · have old : ∀ {x : Nat} {ex : En}, (ρ.set i (some (En.dat (.dict (encK kv)))))[x]? = some (some ex) → ex.mut = true → ρ[x]? = some (some ex) := fun {x ex} q mx => by
      rcases set_some q with ⟨_, _, rfl⟩ | ⟨_, q⟩
      · cases mx
      · exact q
    exact r.sep j k x1 x2 b hjk (old k1 m1) (old k2 m2) m1 m2
theorem ds_frk {t : TS} {g : Gs} (i : Nat) (h1 : DS W t g) : DS W t (frkS i g) := by
  intro H0 HF0 σ H HF ρ o Dn R e p
  obtain ⟨kv, e1, e2⟩ := Option.bind_eq_some_iff.mp e
  obtain ⟨HF', R', s'⟩ := R.freezeK (gK_eq e1)
  exact h1 H0 HF0 σ H HF' _ o Dn R' e2 (p.mono s')

/-- a, b = two new lists -/
def parOS (i j : Nat) (f g : Nv → Option (List D)) (ρ : Nv) : Option Out := if i ≠ j then (f ρ).bind fun x => (g ρ).bind fun y => some (.nx ((ρ.set i (some (.own x))).set j (some (.own y)))) else none
theorem ds_parO {i j : Nat} {f g : Nv → Option (List D)} (h1 : DN W ta f) (h2 : DN W te g) : DS W (tPar i j (tCons ta (tCons te tNil))) (parOS i j f g) := by
  intro H0 HF0 σ H HF ρ o Dn R e p
  by_cases hij : i ≠ j
  · have e : ((f ρ).bind fun x => (g ρ).bind fun y => some (Out.nx ((ρ.set i (some (.own x))).set j (some (.own y))))) = some o := by
      have z : parOS i j f g ρ = some o := e
      unfold parOS at z
      rw [if_pos hij] at z
      exact z
    obtain ⟨x, e1, e⟩ := Option.bind_eq_some_iff.mp e
    obtain ⟨y, e2, e⟩ := Option.bind_eq_some_iff.mp e
    cases e
    refine h1 H0 HF0 σ H HF ρ x _ R e1 fun a vs H1 HF1 f1 n1 n2 k1 r1 => ?_
    refine h2 H0 HF0 σ H1 HF1 ρ y _ (R.grow f1) e2 fun b ws H2 HF2 f2 m1 m2 k2 r2 => ⟨.ref a, .ref b, rfl, ?_⟩
    obtain ⟨k3, k4⟩ := f2.keepsD k1 n2
    have R2 := (R.grow f1).grow f2
    have fresh1 : ∀ (l : Nat) (e' : En), ρ[l]? = some (some e') → e'.mut = true → σ[l]? ≠ some (some (.ref a)) := fun l e' hl hm hb => by
      obtain ⟨_, _, o', ho, _⟩ := R.ownAt hl hm hb
      rw [n1] at ho
      cases ho
    have fresh2 : ∀ (l : Nat) (e' : En), ρ[l]? = some (some e') → e'.mut = true → σ[l]? ≠ some (some (.ref b)) := fun l e' hl hm hb => by
      obtain ⟨_, _, o', ho, _⟩ := (R.grow f1).ownAt hl hm hb
      rw [m1] at ho
      cases ho
    have nab : a ≠ b := fun z => by
      subst z
      rw [k1] at m1
      cases m1
    have R3 := R2.setOwn (i := i) (e := .own x) ⟨a, vs, rfl, k4, R.fz.dom a n1, k3, r1.mono f2.fro⟩ fresh1
    refine p _ H2 HF2 (R3.setOwn (i := j) (e := .own y) ⟨b, ws, rfl, m2, (R.grow f1).fz.dom b m1, k2, r2⟩ fun l e' hl hm hb => ?_) (f1.trans f2).fro
    rcases set_some hl with ⟨rfl, hlt, rfl⟩ | ⟨hn, hl⟩
    · rw [List.getElem?_set_self (by rw [← R.len]; exact hlt)] at hb
      cases hb
      exact nab rfl
    · rw [List.getElem?_set_ne hn] at hb
      exact fresh2 l e' hl hm hb
  · have z : parOS i j f g ρ = some o := e
    unfold parOS at z
    rw [if_neg hij] at z
    cases z

/-! ### arguments of which the last is an own dict -/
def isMutO : HO → Bool
  | .lst _ => true
  | .dK _ => true
  | _ => false
def DAb (W : Wd) (t : TA) (f : Nv → Option (List D)) : Prop := ∀ (H0 HF0 : Hp) (σ : Sg) (H HF : Hp) (ρ : Nv) (ds : List D) (Q : List V → Hp → Prop), Rel W H0 HF0 σ H HF ρ → f ρ = some ds →
  (∀ vs H' HF' HFb, Fz W.T H HF HF' H' → Same HF' HFb → Gd W HFb H' → (∀ a o, HFb a = some o → HF' a = none → isMutO o = true) → RpL W.K HFb vs ds → Q vs H') → t σ H Q
def odiA (i : Nat) (ρ : Nv) : Option (List D) := (gK i ρ).map fun kv => [.dict (encK kv)]
theorem dab_odi (i : Nat) : DAb W (tCons (tVar i) tNil) (odiA i) := by
  intro H0 HF0 σ H HF ρ ds Q R e q
  obtain ⟨kv, e1, rfl⟩ := Option.map_eq_some_iff.mp e
  obtain ⟨a, h1, h2, h3, h4, h5⟩ := odiAt R e1
  have gd := R.gd
  refine ⟨_, h1, q _ H HF (upd HF a (.dK kv)) gd.fz (upd_sameN h2) ⟨fun b u z => ?_, gd.tab, fun b ps z => ?_⟩ (fun b o z n => ?_) (.cons (.dic upd_same h5) .nil)⟩
  · by_cases hb : b = a
    · subst hb
      rw [upd_same] at z
      rw [h4]
      exact z
    · rw [upd_ne hb] at z
      exact gd.sub b u z
  · by_cases hb : b = a
    · subst hb
      rw [upd_same] at z
      cases z
    · rw [upd_ne hb] at z
      exact gd.nt b ps z
  · by_cases hb : b = a
    · subst hb
      rw [upd_same] at z
      cases z
      rfl
    · rw [upd_ne hb, n] at z
      cases z
theorem dab_cons {tr : TA} {g : Nv → Option (List D)} (h : DE W ta fa) (h' : DAb W tr g) : DAb W (tCons ta tr) (consA fa g) := by
  intro H0 HF0 σ H HF ρ ds Q R e q
  obtain ⟨x, e1, e⟩ := Option.bind_eq_some_iff.mp e
  obtain ⟨r, e2, e⟩ := Option.bind_eq_some_iff.mp e
  cases e
  refine h H0 HF0 σ H HF ρ x _ R e1 fun v H1 HF1 f1 r1 => ?_
  exact h' H0 HF0 σ H1 HF1 ρ r _ (R.grow f1) e2 fun vs H2 HF2 HFb f2 s2 g2 m2 r2 => q _ H2 HF2 HFb (f1.trans f2) s2 g2 m2 (.cons (r1.mono (f2.fro.trans s2)) r2)
def c1b (g : Nv → Option (List D)) (o : List D → Option D) (ρ : Nv) : Option D := (g ρ).bind fun ds => (o ds).bind fun d => if imm d = true then some d else none
theorem de_callB {n : Nat} {F : List D → Option D} {E : XK} {tr : TA} {g : Nv → Option (List D)} (h : DAb W tr g) (hn : ∀ ρ ds, g ρ = some ds → ds.length = n) : DE W (tCall (SpF W n F) [] E tr) (c1b g F) := by
  intro H0 HF0 σ H HF ρ d Q R e q
  obtain ⟨ds, e1, e2⟩ := Option.bind_eq_some_iff.mp e
  obtain ⟨d', e3, e4⟩ := Option.bind_eq_some_iff.mp e2
  by_cases hi : imm d' = true
  · rw [if_pos hi] at e4
    obtain rfl : d' = d := Option.some.inj e4
    refine h H0 HF0 σ H HF ρ ds _ R e1 fun vs H1 HF1 HFb f1 s1 gb m1 r1 => ?_
    refine ⟨by rw [List.append_nil, r1.length]; exact hn ρ ds e1, HFb, ds, d', gb, by rw [List.append_nil]; exact r1, e3, fun v H2 HF2 f2 r2 => ?_⟩
    -- what was borrowed is forgotten again
    have f3 : Fz W.T H1 HF1 (fun a => match HF1 a, HFb a with | none, some _ => none | _, _ => HF2 a) H2 := by
      refine ⟨fun a o z => ?_, f2.ext, f2.dom, fun a o z => ?_, fun a o z n => ?_, f2.tab, fun a ps z => ?_⟩
      · have z : (match HF1 a, HFb a with | none, some _ => none | _, _ => HF2 a) = some o := z
        split at z
        · cases z
        · exact f2.sub a o z
      · show (match HF1 a, HFb a with | none, some _ => none | _, _ => HF2 a) = some o
        rw [z]
        exact f2.fro a o (s1 a o z)
      · have z : (match HF1 a, HFb a with | none, some _ => none | _, _ => HF2 a) = some o := z
        cases hb : HFb a with
        | none =>
          rw [n, hb] at z
          exact f2.new a o z hb
        | some u =>
          rw [n, hb] at z
          cases z
      · have z : (match HF1 a, HFb a with | none, some _ => none | _, _ => HF2 a) = some (HO.tbl ps) := z
        split at z
        · cases z
        · exact f2.nt a ps z
    refine q v H2 _ (f1.trans f3) (r2.immut (fun a o z t => ?_) hi)
    show (match HF1 a, HFb a with | none, some _ => none | _, _ => HF2 a) = some o
    split
    · rename_i u x1 x2
      have y := f2.fro a _ x2
      rw [z] at y
      cases y
      have y2 := m1 a o x2 x1
      cases o <;> first | (cases t; done) | (cases y2; done)
    · exact z
  · rw [if_neg hi] at e4
    cases e4
end
end Qd
end
section
set_option Elab.async false
set_option linter.all false
set_option autoImplicit false
set_option maxRecDepth 100000
set_option maxHeartbeats 2000000
/-! Q7: sorted, max with a default, extend by a tuple, len(set(tuple)), in a tuple of tuples, a function that a name holds. -/
namespace Qd
open PySem
open PySem.Spec
open PyProof.Rows
open L2
open LamX (ExtN Tabs TabS)

/-! ### sorted of data of any kind -/
def SortOk (ds : List D) : Prop := PySem.W.AllAlike ds ∧ PySem.W.Sortable ds ∧ ds.length ≤ sizeLine ∧ ∀ d ∈ ds, d.depth ≤ 32
def rSortD (K : PySem.W.Frag) : List V → Hp → VK → Prop := fun vs H Q => ∃ (a : Addr) (xs : List V) (ds : List D), vs = [.ref a] ∧ SqL K H a xs ∧ DpAll K H xs ds ∧ SortOk ds ∧
  ∀ p, H p = none → Q (.ref p) (upd H p (.lst (((xs.zip ds).mergeSort (PySem.W.dataLe false Prod.snd)).map Prod.fst)))
theorem dpAll_len {K : PySem.W.Frag} {H : Hp} : ∀ {xs : List V} {ds : List D}, DpAll K H xs ds → xs.length = ds.length
  | _, _, .nil => rfl
  | _, _, .cons _ t => congrArg (· + 1) (dpAll_len t)
theorem each_zip : ∀ {xs : List V} {us : List Value} {ds : List D}, Vals xs us → xs.length = ds.length → PySem.W.EachIs (fun u (b : V × D) => RelV b.1 u) us (xs.zip ds)
  | [], _, [], .nil, _ => .nil
  | x :: xs, _, d :: ds, .cons r t, h => .cons r (each_zip t (Nat.succ.inj h))
  | [], _, _ :: _, _, h => nomatch h
  | _ :: _, _, [], _, h => nomatch h
theorem each_reads {X : Cx} {pins : List (Addr × Obj)} {σ : Sg} {H : Hp} {s : Shared} (I : Inv X pins σ H s) : ∀ {xs : List V} {us : List Value} {ds : List D}, DpAll X.K H xs ds → Vals xs us → PySem.W.EachIs (fun u (b : V × D) => ∃ as, Reads s.heap u b.2 as) us (xs.zip ds)
  | _, _, _, .nil, .nil => .nil
  | _, _, _, .cons (v := v) (d := d) h t, .cons r rt => .cons (Dp.reads I d v _ h r) (each_reads I t rt)
theorem vals_each : ∀ {us : List Value} {bs : List (V × D)}, PySem.W.EachIs (fun u (b : V × D) => RelV b.1 u) us bs → Vals (bs.map Prod.fst) us
  | _, _, .nil => .nil
  | _, _, .cons h t => .cons h (vals_each t)
theorem snd_zip : ∀ {xs : List V} {ds : List D}, xs.length = ds.length → (xs.zip ds).map Prod.snd = ds
  | [], [], _ => rfl
  | x :: xs, d :: ds, h => by
    rw [List.zip_cons_cons, List.map_cons, snd_zip (Nat.succ.inj h)]
  | [], _ :: _, h => nomatch h
  | _ :: _, [], h => nomatch h
theorem call_sortD {X : Cx} (hu : X.A.units + 64 < cLine) : CallR X (.builtin "sorted") (rSortD X.K) := by
  intro pins s σ H vs us Q I r h
  obtain ⟨a, xs, ds, rfl, hs, hd, ⟨k1, k2, k3, k4⟩, q⟩ := h
  obtain ⟨its, rv, pl, hz⟩ := I.list hs
  obtain ⟨u, rfl, ru⟩ := vals1 r
  obtain rfl : u = Value.ref a := ru
  have hl := dpAll_len hd
  have e0 : (xs.zip ds).map Prod.snd = ds := snd_zip hl
  have hlen : (xs.zip ds).length = ds.length := by rw [List.length_zip, hl, Nat.min_self]
  refine PySem.W.sorted_data (enc := Prod.snd) pl.isList (each_zip rv hl) (each_reads I hd rv) (by rw [e0]; exact k1) (by rw [e0]; exact k2) (by rw [hlen]; exact k3) (fun b hb => ?_) fun out ho he => ?_
  · have hm : b.2 ∈ ds := by
      rw [← e0]
      exact List.mem_map.mpr ⟨b, hb, rfl⟩
    have := k4 b.2 hm
    omega
  · have hvals := vals_each he
    have hn : H (s.heap.objs.size + 1) = none := I.hok.fresh (Nat.le_succ _)
    obtain ⟨c, hc⟩ := sortedAll_at s.heap its out.toArray
    refine ⟨.ref (s.heap.objs.size + 1), _, I.laid (t' := s.toks) (o := .lst (((xs.zip ds).mergeSort (PySem.W.dataLe false Prod.snd)).map Prod.fst)) (fun b o e => sortedAll_old e) (Nat.le_succ _) ⟨?_, out, c, hvals, hc⟩, rfl, q _ hn⟩
    rw [hvals.length, ho, hlen]
    exact k3
/-! ### sorted of a tuple -/
section
open PySem.Calls
open PySem.W
variable {prog : Program} {w : World} {A : Around} {E : Value → Shared → Prop} {s : Shared}
theorem collect_tp {l : Addr} {vs : List Value} {n : Nat} {o : Obj} {Q : List Value → Shared → Prop} (ho : s.heap.get? l = some o) (hc : o.cls = .type "tuple") (hd : o.data = .seq vs.toArray n)
    (h : Q vs { s with heap := (s.heap.push (seqObj "list" #[] 0)).update s.heap.objs.size (Obj.mapSeq (· ++ vs.toArray)) }) (hsz : vs.length ≤ sizeLine) : wpAny (model prog w) A (collect (.ref l)) Q E s := by
  unfold collect
  apply wpAny_bind
  apply wpAny_runValue
  apply codeAny_builtin entry_proto_collect'
  show wpAny _ _ (do again (.builtin "list.__iadd__" ⟨[← newList [], .ref l], []⟩)) _ _ s
  refine wpAny_bind (wpAny_newList (wpAny_pure ?_))
  refine ⟨Code.quiet_builtin _ (by decide +kernel), codeAny_builtin entry_list_iadd' ?_⟩
  show wpAny _ _ (Builtin.List.listExtendWith (.ref s.heap.objs.size) (.ref l) (.ref s.heap.objs.size)) _ _ { s with heap := s.heap.push (seqObj "list" #[] 0) }
  have old : (s.heap.push (seqObj "list" #[] 0)).get? l = some o := Heap.get?_push_of_some _ ho
  unfold Builtin.List.listExtendWith
  refine wpAny_bind (wpAny_typeOf (T := "tuple") ⟨o, old, hc⟩ ?_)
  have tt : (Value.type "tuple" == Value.type "tuple") = true := by rfl
  rw [if_pos (by rw [tt]; simp)]
  apply wpAny_bind
  apply listItems_at old hd
  apply wpAny_bind
  apply listItems_at (xs := #[]) (n := 0) (Heap.get?_push_size _ rfl) rfl
  rw [if_neg (by simp)]
  apply wpAny_bind
  refine listUpdate_at (xs := #[]) (n := 0) (Heap.get?_push_size _ rfl) rfl ?_ (Nat.zero_le _) (by show (#[] ++ vs.toArray).size ≤ sizeLine + 1; simp only [Array.size_append, List.size_toArray, List.length_nil]; omega)
  apply wpAny_pure
  show wpAny (model prog w) A (do
      let u ← load s.heap.objs.size
      match u.data with
      | .seq xs _ => pure xs.toList
      | _ => unsupported "internal:collect") Q E { s with heap := (s.heap.push (seqObj "list" #[] 0)).update s.heap.objs.size (Obj.mapSeq (· ++ vs.toArray)) }
  apply wpAny_bind
  apply wpAny_load (get?_update_seq (Heap.get?_push_size _ rfl) _)
  show wpAny _ _ (pure ((#[] : Array Value) ++ vs.toArray).toList) Q E _
  have e : ((#[] : Array Value) ++ vs.toArray).toList = vs := by simp
  rw [e]
  exact wpAny_pure h
theorem sorted_tp {κ : PyProof.Rows.KeyKind} {l : Addr} {vs : List Value} {n : Nat} {o : Obj} {Q : Value → Shared → Prop} (ho : s.heap.get? l = some o) (hc : o.cls = .type "tuple") (hd : o.data = .seq vs.toArray n)
    (S : SortsAt prog w A.in1.in1 { s with heap := sortingHeap (copyHeap s.heap vs) (s.heap.objs.size + 1) vs } κ vs) (hL : vs.length ≤ sizeLine)
    (h : Q (.ref (s.heap.objs.size + 1)) { s with heap := sortedAll s.heap vs (sortVals κ false vs vs).toArray }) : wpAny (model prog w) A (call (.builtin "sorted") [.ref l]) Q E s := by
  apply call_function_entry_kw kind_sorted plain_sorted entry_sorted (args_sorted1 _)
  unfold Builtin.«sorted»
  refine wpAny_bind (m := checkCount "sorted" 1 1 _) (wpAny_pure ?_)
  apply wpAny_bind
  refine collect_tp ho hc hd ?_ hL
  apply wpAny_bind
  refine wpAny_newList ?_ hL
  have z : ((s.heap.push (seqObj "list" #[] 0)).update s.heap.objs.size (Obj.mapSeq (· ++ vs.toArray))).objs.size = s.heap.objs.size + 1 := by rw [Heap.size_update, size_push']
  show wpAny _ _ _ _ _ { s with heap := copyHeap s.heap vs }
  rw [z]
  apply wpAny_bind
  apply wpAny_holding
  refine wpAny_call_entry_kw slot_list_sort ⟨_, copyHeap_at s.heap vs, rfl⟩ entry_list_sort ?b (args_list_sort _)
  case b =>
    show wpAny (model prog w) A.in1.in1 (Builtin.«list.sort» ⟨[.ref (s.heap.objs.size + 1)], []⟩) _ _ _
    have bd : ∀ E' : Value → Shared → Prop, wpAny (model prog w) A.in1.in1 (Builtin.«list.sort» ⟨[.ref (s.heap.objs.size + 1)], []⟩) (fun f s' => f = .done (.ret .none) ∧ Q (.ref (s.heap.objs.size + 1)) s') E' { s with heap := copyHeap s.heap vs } := fun _ => list_sort_vals (s := { s with heap := copyHeap s.heap vs }) (copyHeap_at s.heap vs) S hL ⟨rfl, h⟩
    refine wpAny_mono (bd _) (fun f s' hf => ?_) fun _ _ e => e
    obtain ⟨rfl, hq⟩ := hf
    exact ⟨_, rfl, wpAny_pure ⟨_, rfl, hq⟩⟩
end
def rSortT (K : PySem.W.Frag) : List V → Hp → VK → Prop := fun vs H Q => ∃ (a : Addr) (xs : List V) (ds : List D), vs = [.ref a] ∧ SqT K H a xs ∧ DpAll K H xs ds ∧ SortOk ds ∧
  ∀ p, H p = none → Q (.ref p) (upd H p (.lst (((xs.zip ds).mergeSort (PySem.W.dataLe false Prod.snd)).map Prod.fst)))
theorem call_sortT {X : Cx} (hu : X.A.units + 64 < cLine) : CallR X (.builtin "sorted") (rSortT X.K) := by
  intro pins s σ H vs us Q I r h
  obtain ⟨a, xs, ds, rfl, hs, hd, ⟨k1, k2, k3, k4⟩, q⟩ := h
  obtain ⟨its, rv, pt, hz⟩ := I.tuple hs
  obtain ⟨u, rfl, ru⟩ := vals1 r
  obtain rfl : u = Value.ref a := ru
  have hl := dpAll_len hd
  have e0 : (xs.zip ds).map Prod.snd = ds := snd_zip hl
  have hlen : (xs.zip ds).length = ds.length := by rw [List.length_zip, hl, Nat.min_self]
  obtain ⟨o, ho, hcl, n, hdt⟩ := pt
  have e := each_zip rv hl
  have er := each_reads I hd rv
  have er' : PySem.W.EachIs (fun v (b : V × D) => ∃ as, Reads (PySem.W.sortingHeap (PySem.W.copyHeap s.heap its) (s.heap.objs.size + 1) its) v b.2 as) its (xs.zip ds) := er.mono fun _ _ ⟨as, r⟩ => ⟨as, PyProof.Rows.Reads.keeps (fun _ _ => PySem.W.sorting_copy_old) r⟩
  have hL : its.length ≤ sizeLine := by rw [e.length, hlen]; exact k3
  have hu2 : ∀ b, b ∈ xs.zip ds → X.A.units + 2 + (Prod.snd b).depth < cLine := fun b hb => by
    have hm : b.2 ∈ ds := by
      rw [← e0]
      exact List.mem_map.mpr ⟨b, hb, rfl⟩
    have := k4 b.2 hm
    omega
  refine sorted_tp (κ := PySem.W.dataKind (PySem.W.sortingHeap (PySem.W.copyHeap s.heap its) (s.heap.objs.size + 1) its) ((xs.zip ds).map Prod.snd)) ho hcl hdt
    (PySem.W.SortsAt.data (s := { s with heap := PySem.W.sortingHeap (PySem.W.copyHeap s.heap its) (s.heap.objs.size + 1) its }) (PySem.W.each_map (R := fun v d => ∃ as, Reads (PySem.W.sortingHeap (PySem.W.copyHeap s.heap its) (s.heap.objs.size + 1) its) v d as) Prod.snd er') (by rw [e0]; exact k1) (by rw [e0]; exact k2) (PySem.W.bound_map hu2)) hL ?_
  · have he := PySem.W.sortVals_data (R := fun u (b : V × D) => RelV b.1 u) false e er' (by rw [e0]; exact k1)
    have ho2 := PySem.W.sortVals_length (κ := PySem.W.dataKind (PySem.W.sortingHeap (PySem.W.copyHeap s.heap its) (s.heap.objs.size + 1) its) ((xs.zip ds).map Prod.snd)) (ks := its) (vs := its) false rfl
    have hvals := vals_each he
    have hn : H (s.heap.objs.size + 1) = none := I.hok.fresh (Nat.le_succ _)
    obtain ⟨c, hc⟩ := sortedAll_at s.heap its (PySem.W.sortVals (PySem.W.dataKind (PySem.W.sortingHeap (PySem.W.copyHeap s.heap its) (s.heap.objs.size + 1) its) ((xs.zip ds).map Prod.snd)) false its its).toArray
    refine ⟨.ref (s.heap.objs.size + 1), _, I.laid (t' := s.toks) (o := .lst (((xs.zip ds).mergeSort (PySem.W.dataLe false Prod.snd)).map Prod.fst)) (fun b o e => sortedAll_old e) (Nat.le_succ _) ⟨?_, _, c, hvals, hc⟩, rfl, q _ hn⟩
    rw [hvals.length, ho2]
    exact hL
/-- ints, or tuples of ints: by insertion (it reduces) -/
def intB : D → Bool
  | .int _ => true
  | _ => false
def tupIB : D → Bool
  | .tuple (x :: xs) => intB x && xs.all intB
  | _ => false
def okI (ds : List D) : Bool := (ds.all intB || ds.all tupIB) && decide (ds.length ≤ 1000)
def lexLeI : List D → List D → Bool
  | [], _ => true
  | _ :: _, [] => false
  | .int a :: xs, .int b :: ys => if a < b then true else if b < a then false else lexLeI xs ys
  | _ :: _, _ :: _ => true
def leI : D → D → Bool
  | .int a, .int b => decide (a ≤ b)
  | .tuple xs, .tuple ys => lexLeI xs ys
  | _, _ => true
def insI (d : D) : List D → List D
  | [] => [d]
  | e :: r => if leI d e = true then d :: e :: r else e :: insI d r
def sortI : List D → List D
  | [] => []
  | d :: r => insI d (sortI r)
def sortD (ds : List D) : List D := ds.mergeSort (PySem.W.dataLe false id)
def oSorted : List D → Option (List D)
  | [.list ds] => if okI ds = true then some (sortI ds) else none
  | [.tuple ds] => if okI ds = true then some (sortI ds) else none
  | _ => none
abbrev leD : D → D → Bool := PySem.W.dataLe false id
theorem leD_eq (a b : D) : leD a b = !PyProof.Rows.lexLt itemOrd (PySem.W.keyToks b) (PySem.W.keyToks a) := rfl
theorem leD_int (a b : Int) : leD (.int a) (.int b) = decide (a ≤ b) := by
  rw [leD_eq]
  simp [PySem.W.keyToks, PyProof.Rows.lexLt, itemLt]
  by_cases h : b < a
  · simp [h, Int.not_le.mpr h]
  · simp [h, Int.not_lt.mp h]
theorem intB_eq {d : D} (h : intB d = true) : ∃ i, d = .int i := by
  cases d <;> first | (cases h; done) | exact ⟨_, rfl⟩
theorem leD_lex : ∀ xs ys : List D, xs.all intB = true → ys.all intB = true → leD (.tuple xs) (.tuple ys) = lexLeI xs ys
  | [], [], _, _ => by rw [leD_eq]; simp [PySem.W.keyToks, PySem.W.keyToksAll, PyProof.Rows.lexLt, itemLt, lexLeI]
  | [], y :: ys, _, _ => by rw [leD_eq]; simp [PySem.W.keyToks, PySem.W.keyToksAll, PyProof.Rows.lexLt, itemLt, lexLeI]
  | x :: xs, [], _, _ => by rw [leD_eq]; simp [PySem.W.keyToks, PySem.W.keyToksAll, PyProof.Rows.lexLt, itemLt, lexLeI]
  | x :: xs, y :: ys, hx, hy => by
    rw [List.all_cons, Bool.and_eq_true] at hx hy
    obtain ⟨a, rfl⟩ := intB_eq hx.1
    obtain ⟨b, rfl⟩ := intB_eq hy.1
    have ih := leD_lex xs ys hx.2 hy.2
    rw [leD_eq] at ih ⊢
    rw [show lexLeI (.int a :: xs) (.int b :: ys) = if a < b then true else if b < a then false else lexLeI xs ys from rfl, ← ih]
    simp only [PySem.W.keyToks, PySem.W.keyToksAll, PyProof.Rows.lexLt, itemLt, List.cons_append, List.nil_append]
    by_cases h1 : a < b
    · have h2 : ¬ b < a := by omega
      simp [h1, h2]
    · by_cases h2 : b < a
      · simp [h1, h2]
      · simp [h1, h2]
theorem tupIB_all {d : D} (h : tupIB d = true) : ∃ x xs, d = .tuple (x :: xs) ∧ (x :: xs).all intB = true := by
  unfold tupIB at h
  split at h
  · rename_i x xs
    exact ⟨x, xs, rfl, by rw [List.all_cons]; exact h⟩
  · cases h
theorem okI_le {ds : List D} (h : okI ds = true) {a b : D} (ha : a ∈ ds) (hb : b ∈ ds) : leD a b = leI a b := by
  unfold okI at h
  rw [Bool.and_eq_true, Bool.or_eq_true, List.all_eq_true, List.all_eq_true] at h
  rcases h.1 with z | z
  · obtain ⟨i, rfl⟩ := intB_eq (z a ha)
    obtain ⟨j, rfl⟩ := intB_eq (z b hb)
    exact leD_int i j
  · obtain ⟨x, xs, rfl, hx⟩ := tupIB_all (z a ha)
    obtain ⟨y, ys, rfl, hy⟩ := tupIB_all (z b hb)
    exact leD_lex _ _ hx hy
theorem lex_anti : ∀ xs ys : List D, xs.all intB = true → ys.all intB = true → lexLeI xs ys = true → lexLeI ys xs = true → xs = ys
  | [], [], _, _, _, _ => rfl
  | [], _ :: _, _, _, _, h => by simp [lexLeI] at h
  | _ :: _, [], _, _, h, _ => by simp [lexLeI] at h
  | x :: xs, y :: ys, hx, hy, h1, h2 => by
    rw [List.all_cons, Bool.and_eq_true] at hx hy
    obtain ⟨a, rfl⟩ := intB_eq hx.1
    obtain ⟨b, rfl⟩ := intB_eq hy.1
    have h1 : (if a < b then true else if b < a then false else lexLeI xs ys) = true := h1
    have h2 : (if b < a then true else if a < b then false else lexLeI ys xs) = true := h2
    by_cases z : a < b
    · have z2 : ¬ b < a := by omega
      rw [if_neg z2, if_pos z] at h2
      cases h2
    · by_cases z2 : b < a
      · rw [if_neg z, if_pos z2] at h1
        cases h1
      · rw [if_neg z, if_neg z2] at h1
        rw [if_neg z2, if_neg z] at h2
        have e : a = b := by omega
        rw [e, lex_anti xs ys hx.2 hy.2 h1 h2]
theorem okI_anti {ds : List D} (h : okI ds = true) {a b : D} (ha : a ∈ ds) (hb : b ∈ ds) (h1 : leI a b = true) (h2 : leI b a = true) : a = b := by
  unfold okI at h
  rw [Bool.and_eq_true, Bool.or_eq_true, List.all_eq_true, List.all_eq_true] at h
  rcases h.1 with z | z
  · obtain ⟨i, rfl⟩ := intB_eq (z a ha)
    obtain ⟨j, rfl⟩ := intB_eq (z b hb)
    have h1 : decide (i ≤ j) = true := h1
    have h2 : decide (j ≤ i) = true := h2
    have : i = j := by
      have := of_decide_eq_true h1
      have := of_decide_eq_true h2
      omega
    rw [this]
  · obtain ⟨x, xs, rfl, hx⟩ := tupIB_all (z a ha)
    obtain ⟨y, ys, rfl, hy⟩ := tupIB_all (z b hb)
    rw [lex_anti _ _ hx hy h1 h2]
theorem insI_perm (d : D) : ∀ l : List D, (insI d l).Perm (d :: l)
  | [] => .refl _
  | e :: r => by
    unfold insI
    split
    · exact .refl _
    · exact ((insI_perm d r).cons e).trans (.swap d e r)
theorem sortI_perm : ∀ l : List D, (sortI l).Perm l
  | [] => .refl _
  | d :: r => (insI_perm d (sortI r)).trans ((sortI_perm r).cons d)
theorem leD_tot : PySem.W.TotalLe leD := PySem.W.sortLe_total (listOrd itemOrd) false fun b : D => PySem.W.keyToks (id b)
theorem insI_sorted {ds : List D} (h : okI ds = true) (d : D) (hd : d ∈ ds) : ∀ l : List D, (∀ x ∈ l, x ∈ ds) → l.Pairwise (fun a b => leD a b = true) → (insI d l).Pairwise fun a b => leD a b = true
  | [], _, _ => List.pairwise_singleton _ _
  | e :: r, hm, hp => by
    obtain ⟨h1, h2⟩ := List.pairwise_cons.mp hp
    have he := hm e List.mem_cons_self
    unfold insI
    split
    · rename_i z
      have z2 : leD d e = true := by rw [okI_le h hd he]; exact z
      refine List.pairwise_cons.mpr ⟨fun x hx => ?_, hp⟩
      rcases List.mem_cons.mp hx with rfl | hx
      · exact z2
      · exact leD_tot.trans _ _ _ z2 (h1 x hx)
    · rename_i z
      have z2 : leD e d = true := by
        rcases leD_tot.total e d with y | y
        · exact y
        · rw [okI_le h hd he] at y
          exact absurd y z
      refine List.pairwise_cons.mpr ⟨fun x hx => ?_, insI_sorted h d hd r (fun x hx => hm x (List.mem_cons_of_mem _ hx)) h2⟩
      rcases List.mem_cons.mp ((insI_perm d r).mem_iff.mp hx) with rfl | hx
      · exact z2
      · exact h1 x hx
theorem sortI_sorted {ds : List D} (h : okI ds = true) : ∀ l : List D, (∀ x ∈ l, x ∈ ds) → (sortI l).Pairwise fun a b => leD a b = true
  | [], _ => .nil
  | d :: r, hm => insI_sorted h d (hm d List.mem_cons_self) (sortI r) (fun x hx => hm x (List.mem_cons_of_mem _ ((sortI_perm r).mem_iff.mp hx))) (sortI_sorted h r fun x hx => hm x (List.mem_cons_of_mem _ hx))
theorem sortD_eq {ds : List D} (h : okI ds = true) : sortD ds = sortI ds := by
  have p1 := List.mergeSort_perm ds leD
  refine List.Perm.eq_of_pairwise (le := fun a b => leD a b = true) (fun a b ha hb h1 h2 => ?_) (List.pairwise_mergeSort (fun a b c => leD_tot.trans a b c) (fun a b => by rw [Bool.or_eq_true]; exact leD_tot.total a b) ds) (sortI_sorted h ds fun x hx => hx) (p1.trans (sortI_perm ds).symm)
  have ma : a ∈ ds := p1.mem_iff.mp ha
  have mb : b ∈ ds := (sortI_perm ds).mem_iff.mp hb
  exact okI_anti h ma mb (by rw [← okI_le h ma mb]; exact h1) (by rw [← okI_le h mb ma]; exact h2)
theorem alikeI : ∀ xs ys : List D, xs.all intB = true → ys.all intB = true → PySem.W.alikeAll xs ys = true
  | [], _, _, _ => by simp [PySem.W.alikeAll]
  | _ :: _, [], _, _ => by simp [PySem.W.alikeAll]
  | x :: xs, y :: ys, hx, hy => by
    rw [List.all_cons, Bool.and_eq_true] at hx hy
    obtain ⟨a, rfl⟩ := intB_eq hx.1
    obtain ⟨b, rfl⟩ := intB_eq hy.1
    simp [PySem.W.alikeAll, PySem.W.alike, alikeI xs ys hx.2 hy.2]
theorem layI : ∀ xs : List D, xs.all intB = true → PyData.canLayAll0 xs = true ∧ PyData.depthAll xs ≤ 1
  | [], _ => by simp [PyData.canLayAll0, PyData.depthAll]
  | x :: xs, hx => by
    rw [List.all_cons, Bool.and_eq_true] at hx
    obtain ⟨a, rfl⟩ := intB_eq hx.1
    obtain ⟨h1, h2⟩ := layI xs hx.2
    constructor
    · simp [PyData.canLayAll0, PyData.canLay0, h1]
    · simp [PyData.depthAll, PyData.depth]
      omega
theorem sortOk_ok {ds : List D} (h : okI ds = true) : SortOk ds ∧ PyData.canLayAll0 ds = true := by
  have h0 := h
  unfold okI at h
  rw [Bool.and_eq_true, Bool.or_eq_true, List.all_eq_true, List.all_eq_true, decide_eq_true_eq] at h
  have hl : ds.length ≤ sizeLine := Nat.le_trans h.2 (by decide)
  have go : ∀ l : List D, (∀ d ∈ l, d.canLay0 = true) → PyData.canLayAll0 l = true := fun l => by
    induction l with
    | nil =>
      intro _
      simp [PyData.canLayAll0]
    | cons d l ih =>
      intro hh
      simp only [PyData.canLayAll0, Bool.and_eq_true]
      exact ⟨hh d List.mem_cons_self, ih fun e he => hh e (List.mem_cons_of_mem _ he)⟩
  rcases h.1 with z | z
  · refine ⟨⟨fun a ha b hb => ?_, .inr fun a ha => ?_, hl, fun a ha => ?_⟩, go ds fun a ha => ?_⟩
    · obtain ⟨i, rfl⟩ := intB_eq (z a ha)
      obtain ⟨j, rfl⟩ := intB_eq (z b hb)
      simp [PySem.W.alike]
    · obtain ⟨i, rfl⟩ := intB_eq (z a ha)
      exact ⟨(fun e => by cases e), fun xs e => by cases e⟩
    · obtain ⟨i, rfl⟩ := intB_eq (z a ha)
      simp [PyData.depth]
    · obtain ⟨i, rfl⟩ := intB_eq (z a ha)
      simp [PyData.canLay0]
  · refine ⟨⟨fun a ha b hb => ?_, .inl fun a ha => ?_, hl, fun a ha => ?_⟩, go ds fun a ha => ?_⟩
    · obtain ⟨x, xs, rfl, hx⟩ := tupIB_all (z a ha)
      obtain ⟨y, ys, rfl, hy⟩ := tupIB_all (z b hb)
      simp [PySem.W.alike, alikeI _ _ hx hy]
    · obtain ⟨x, xs, rfl, hx⟩ := tupIB_all (z a ha)
      exact ⟨x, xs, rfl⟩
    · obtain ⟨x, xs, rfl, hx⟩ := tupIB_all (z a ha)
      have := (layI _ hx).2
      simp [PyData.depth]
      omega
    · obtain ⟨x, xs, rfl, hx⟩ := tupIB_all (z a ha)
      have := (layI _ hx).1
      simpa [PyData.canLay0] using this
theorem rpL_pairs {K : PySem.W.Frag} {H : Hp} : ∀ {bs : List (V × D)}, (∀ b ∈ bs, Rp K H b.1 b.2) → RpL K H (bs.map Prod.fst) (bs.map Prod.snd)
  | [], _ => .nil
  | b :: bs, h => .cons (h b List.mem_cons_self) (rpL_pairs fun c hc => h c (List.mem_cons_of_mem _ hc))
theorem zip_rp {K : PySem.W.Frag} {H : Hp} : ∀ {vs : List V} {ds : List D}, RpL K H vs ds → ∀ b ∈ vs.zip ds, Rp K H b.1 b.2
  | _, _, .nil, b, hb => by cases hb
  | _, _, .cons h t, b, hb => by
    rw [List.zip_cons_cons] at hb
    rcases List.mem_cons.mp hb with rfl | hb
    · exact h
    · exact zip_rp t b hb
theorem sortD_map {vs : List V} {ds : List D} (h : vs.length = ds.length) : ((vs.zip ds).mergeSort (PySem.W.dataLe false Prod.snd)).map Prod.snd = sortD ds := by
  have e := List.map_mergeSort (r := PySem.W.dataLe false Prod.snd) (s := PySem.W.dataLe false id) (f := Prod.snd) (l := vs.zip ds) (fun a _ b _ => rfl)
  rw [e, snd_zip h]
  rfl
section
variable {W : Wd} {ta te : TE} {fa fe : Nv → Option D}
theorem rn_sort : RcN W (fun vs H Q => rSortD W.K vs H Q ∨ rSortT W.K vs H Q) oSorted := by
  intro HF H xs ds dz Q gd r e q
  match ds, e with
  | [.list es], e =>
    have e' : (if okI es = true then some (sortI es) else none) = some dz := e
    by_cases hk : okI es = true
    · rw [if_pos hk] at e'
      cases e'
      obtain ⟨v, rfl, hv⟩ := r.one
      obtain ⟨a, ys, rfl, hd, hr⟩ := hv.lst_inv
      obtain ⟨k1, k2⟩ := sortOk_ok hk
      refine .inl ⟨a, ys, es, rfl, gd.sqL hd, (hr.mono gd.sub).dp k2, k1, fun p hp => q p _ hp ?_⟩
      rw [← sortD_eq hk, ← sortD_map hr.length]
      exact rpL_pairs fun b hb => zip_rp hr b (List.mem_mergeSort.mp hb)
    · rw [if_neg hk] at e'
      cases e'
  | [.tuple es], e =>
    have e' : (if okI es = true then some (sortI es) else none) = some dz := e
    by_cases hk : okI es = true
    · rw [if_pos hk] at e'
      cases e'
      obtain ⟨v, rfl, hv⟩ := r.one
      obtain ⟨a, ys, rfl, hd, hr⟩ := hv.tup_inv
      obtain ⟨k1, k2⟩ := sortOk_ok hk
      refine .inr ⟨a, ys, es, rfl, gd.sqT hd, (hr.mono gd.sub).dp k2, k1, fun p hp => q p _ hp ?_⟩
      rw [← sortD_eq hk, ← sortD_map hr.length]
      exact rpL_pairs fun b hb => zip_rp hr b (List.mem_mergeSort.mp hb)
    · rw [if_neg hk] at e'
      cases e'
theorem call_sortU {X : Cx} (hu : X.A.units + 64 < cLine) : CallR X (.builtin "sorted") (fun vs H Q => rSortD X.K vs H Q ∨ rSortT X.K vs H Q) := by
  intro pins s σ H vs us Q I r h
  rcases h with h | h
  · exact call_sortD hu pins s σ H vs us Q I r h
  · exact call_sortT hu pins s σ H vs us Q I r h

/-! ### max(xs, default=d), ints -/
theorem canLay_ints : ∀ ns : List Int, PyData.canLayAll0 (ns.map PyData.int) = true
  | [] => by simp [PyData.canLayAll0]
  | n :: ns => by
    simp only [List.map_cons, PyData.canLayAll0, Bool.and_eq_true]
    exact ⟨by simp [PyData.canLay0], canLay_ints ns⟩
def rMaxDf (K : PySem.W.Frag) : List V → List V → Hp → VK → Prop := fun vs zs H Q => ∃ (a : Addr) (ns : List Int) (d : Int), vs = [.ref a] ∧ zs = [.int d] ∧ SqL K H a (ns.map V.int) ∧ Q (.int (match ns with | [] => d | n :: r => r.foldl max n)) H
theorem call_maxDf {X : Cx} (hc : X.calm = true) (hu : X.A.units + 64 < cLine) : CallRK X (.builtin "max") ["default"] (rMaxDf X.K) := by
  intro pins s σ H xs zs us ws Q I r rz h
  obtain ⟨a, ns, d, rfl, rfl, hs, q⟩ := h
  obtain ⟨its, rv, pl, hz⟩ := I.list hs
  obtain ⟨u, rfl, ru⟩ := vals1 r
  obtain rfl : u = Value.ref a := ru
  obtain ⟨w, rfl, rw'⟩ := vals1 rz
  obtain ⟨t, rfl⟩ := rw'
  obtain ⟨as, hr⟩ := Dp.readsAll I (ns.map PyData.int) (ns.map V.int) its ((rpL_ints (K := X.K) (H := H) ns).dp (canLay_ints ns)) rv
  have hal : PySem.W.AlikeAll (ns.map PyData.int) := ⟨fun x hx y hy => by
    obtain ⟨i, _, rfl⟩ := List.mem_map.mp hx
    obtain ⟨j, _, rfl⟩ := List.mem_map.mp hy
    simp [PySem.W.alike], fun x hx => by
    obtain ⟨i, _, rfl⟩ := List.mem_map.mp hx
    exact fun z => nomatch z⟩
  have hdep : PyData.depthAll (ns.map PyData.int) = 0 := PySem.W.depth_ints ns
  refine PySem.W.max_list_default (I.ok.hd hc) pl.isList (by simpa using hr) hal (by rw [hdep]; omega) (fun e h' tk k => ?_) fun y ys i v h' tk bs e hi hrd k => ?_
  · have en : ns = [] := List.map_eq_nil_iff.mp e
    subst en
    exact ⟨.int d, H, I.kept (t' := tk) k, ⟨t, rfl⟩, q⟩
  · cases ns with
    | nil => cases e
    | cons n r =>
      rw [List.map_cons] at e
      injection e with e1 e2
      subst e1 e2
      rw [PySem.W.maxD_ints] at hrd
      cases hrd with
      | int i t' => exact ⟨.int (r.foldl max n), H, I.kept (t' := tk) k, ⟨t', rfl⟩, q⟩
def oMaxDf : List D → Int → Option D
  | [.list ds], d => (intsD ds).map fun ns => .int (match ns with | [] => d | n :: r => r.foldl max n)
  | _, _ => none
def maxDfV (g : Nv → Option (List D)) (d : Int) (ρ : Nv) : Option D := (g ρ).bind fun ds => oMaxDf ds d
theorem de_maxDf {tr : TA} {g : Nv → Option (List D)} {d : Int} (h : DA W tr g) : DE W (tCKw (rMaxDf W.K) tr (tCons (tC (.int d)) tNil)) (maxDfV g d) := by
  intro H0 HF0 σ H HF ρ z Q R e q
  obtain ⟨ds, e1, e2⟩ := Option.bind_eq_some_iff.mp e
  refine h H0 HF0 σ H HF ρ ds _ R e1 fun vs H1 HF1 f1 r1 => ?_
  match ds, e2 with
  | [.list es], e2 =>
    obtain ⟨ns, e3, rfl⟩ := Option.map_eq_some_iff.mp (show (intsD es).map _ = some z from e2)
    obtain ⟨v, rfl, hv⟩ := r1.one
    obtain ⟨a, ys, rfl, hd, hr⟩ := hv.lst_inv
    rw [intsD_some e3] at hr
    exact ⟨a, ns, d, rfl, rfl, by rw [← hr.ints]; exact f1.gd.sqL hd, q _ H1 HF1 f1 (.int _)⟩

end

/-! ### xs.extend(a tuple) -/
section
theorem ext_tup_meets (l : Addr) (items : Array Value) (n : Nat) (b : Addr) (items2 : Array Value) (n2 : Nat) (dd : Option Addr) (sl : Array (Option Value)) (hs0 : ¬(!items.isEmpty && Builtin.List.listTooLong (items.size + items2.size)) = true) (hs1 : items.size ≤ sizeLine) (hs2 : items.size + items2.size ≤ sizeLine + 1) :
    Meets (Builtin.«list.extend» ⟨[.ref l, .ref b], []⟩) (fun _ R s => s.heap.get? l = some { cls := .type "list", dict := none, data := .seq items n, slots := #[] } ∧ s.heap.get? b = some ⟨.type "tuple", dd, .seq items2 n2, sl⟩ ∧
      R (.ok (.ret Value.none)) { s with heap := s.heap.update l (Obj.mapSeq fun x => x ++ items2), toks := s.toks }) :=
  .of_wp fun prog w A R s h => by
    obtain ⟨hp, g, d, tk, os⟩ := s
    obtain ⟨hl, hb, h⟩ := h
    have f1 := AutoSeq1.idx_int
    have f2 := AutoSeq1.sub_tuple_tuple
    have f3 := AutoSeq1.sub_list_list
    have f4 := AutoSeq1.sub_tuple_list
    have f5 := AutoSeq1.sub_list_tuple
    have hz' : (items ++ items2).size ≤ sizeLine + 1 := by
      rw [Array.size_append]
      exact hs2
    wp_walk using (wpAny_updateSeq hl rfl (hz := hs1) (_hz' := hz')), AutoSeq1.wpAny_loadPart' hl, AutoSeq1.wpAny_loadPart' hb
    exact ⟨_, rfl, h⟩
end
section
variable {W : Wd} {ta te : TE} {fa fe : Nv → Option D}
def rExtT (K : PySem.W.Frag) : V → List V → Hp → VK → Prop := fun x vs H Q => ∃ l b xs zs, x = .ref l ∧ vs = [.ref b] ∧ H l = some (.lst xs) ∧ SqT K H b zs ∧ xs.length + zs.length ≤ sizeLine ∧ Q .non (upd H l (.lst (xs ++ zs)))
theorem mt_extT {X : Cx} : MtM X "list.extend" (rExtT X.K) := by
  intro pins s σ H x vs v us Q I rx rv h
  obtain ⟨l, b, xs, zs, rfl, rfl, hH, hB, hz, q⟩ := h
  cases rx
  obtain ⟨u, rfl, ru⟩ := rv.one
  cases ru
  obtain ⟨z, its, n, r, hl, e⟩ := I.lstM hH
  obtain ⟨its2, r2, ⟨⟨oc, dd, dt, sl⟩, e2, hc, n2, hd⟩, hz2⟩ := I.tuple hB
  simp only at hc hd
  subst hc hd
  have hl2 := r2.length
  have hsz : its.toArray.size + its2.toArray.size ≤ sizeLine := by rw [List.size_toArray, List.size_toArray]; omega
  have hlong : ¬ (!its.toArray.isEmpty && Builtin.List.listTooLong (its.toArray.size + its2.toArray.size)) = true := by
    rw [notLongL hsz, Bool.and_false]
    exact Bool.false_ne_true
  refine call_meets F.slot_list_extend ⟨_, e, rfl⟩ F.entry_list_extend (F.args_list_extend_2 _ _)
    (ext_tup_meets l its.toArray n b its2.toArray n2 dd sl hlong (by rw [List.size_toArray]; omega) (by omega)) ⟨e, e2, ?_⟩
  refine ⟨.non, _, I.lset (its' := its ++ its2) hH e (by simp) (r.append r2) ?_, rfl, q⟩
  rw [List.length_append]
  omega
def extTS (i : Nat) (f : Nv → Option D) (ρ : Nv) : Option Out := (gO i ρ).bind fun ds => (f ρ).bind fun x => match x with
  | .tuple es => if ds.length + es.length ≤ lim then some (.nx (ρ.set i (some (.own (ds ++ es))))) else none
  | _ => none
theorem ds_extT (i : Nat) (h : DE W te fe) : DS W (tDrop (tBM W.K "list" (rExtT W.K) (tVar i) (tCons te tNil))) (extTS i fe) := by
  intro H0 HF0 σ H HF ρ o Dn R e p
  obtain ⟨ds, e1, e⟩ := Option.bind_eq_some_iff.mp e
  obtain ⟨x, e2, e3⟩ := Option.bind_eq_some_iff.mp e
  obtain ⟨a, vs, h1, h2, h3, h4, h5⟩ := ownAt R e1
  cases x <;> first | (cases e3; done) | skip
  rename_i es
  have e3 : (if ds.length + es.length ≤ lim then some (Out.nx (ρ.set i (some (.own (ds ++ es))))) else none) = some o := e3
  by_cases hl : ds.length + es.length ≤ lim
  · rw [if_pos hl] at e3
    cases e3
    refine ⟨_, h1, .inl ⟨rfl, vs, SqL.of h4⟩, h H0 HF0 σ H HF ρ _ _ R e2 fun u H1 HF1 f1 r1 => ?_⟩
    obtain ⟨b, ws, rfl, hb, hr⟩ := r1.tup_inv
    obtain ⟨k1, k2⟩ := f1.keepsD h4 h2
    refine ⟨a, b, vs, ws, rfl, rfl, k1, f1.gd.sqT hb, by rw [h5.length, hr.length]; exact lim_le hl, ?_⟩
    exact p σ _ HF1 ((R.grow f1).write (e' := .own (ds ++ es)) (gO_eq e1) rfl h1 ⟨a, vs ++ ws, rfl, k2, h3, upd_same, (h5.mono f1.fro).app hr⟩ rfl) f1.fro
  · rw [if_neg hl] at e3
    cases e3

/-! ### len(set(a tuple of ints, each once)) -/
def tLenSetT (K : PySem.W.Frag) (ta : TE) : TE := fun σ H Q => ta σ H fun x H1 => ∃ (l : Addr) (ns : List Int), x = .ref l ∧ SqT K H1 l (ns.map V.int) ∧ ns.Nodup ∧ ns.length ≤ 4000 ∧ Q (.int (ns.length : Nat)) H1

/-! ### x in a tuple of data -/
def rInTD (K : PySem.W.Frag) (neg : Bool) : R2 := fun x y H Q => ∃ d ds, Dp K H x d ∧ Dp K H y (.tuple ds) ∧ SeqAt.shaped d = true ∧ SeqAt.shaped (.tuple ds) = true ∧ Q (.bl (if neg = true then !(ds.any fun z => PyData.eqv z d) else ds.any fun z => PyData.eqv z d)) H
theorem room_shaped {A : Around} {d : D} {ds : List D} (h : SeqAt.shaped d = true) (hu : A.units + 65 < cLine) : A.units + 1 + min (PyData.depthAll ds) d.depth < cLine := by
  have h1 := SeqAt.depth_of_shaped h
  have h2 : min (PyData.depthAll ds) d.depth ≤ d.depth := Nat.min_le_right _ _
  omega
theorem op_notInTD {X : Cx} (hu : X.A.units + 65 < cLine) : OpR X (compareOp .NotIn) (rInTD X.K true) := by
  intro pins s σ H x y v u Q I rx ry h
  obtain ⟨d, ds, hd, he, sd, se, q⟩ := h
  obtain ⟨as, r1⟩ := Dp.reads I d x v hd rx
  obtain ⟨bs, r2⟩ := Dp.reads I (.tuple ds) y u he ry
  exact SeqAt.notIn_tuple_reads r2 r1 (SeqAt.canLay_of_shaped se) (SeqAt.canLay_of_shaped sd) (room_shaped sd hu) ⟨.bl _, H, I, rfl, q⟩
def oInTD (neg : Bool) (x y : D) : Option D := match y with
  | .tuple ds => if (SeqAt.shaped x && SeqAt.shaped (.tuple ds)) = true then some (.bool (if neg = true then !(ds.any fun z => PyData.eqv z x) else ds.any fun z => PyData.eqv z x)) else none
  | _ => none
theorem rv_inTD {neg : Bool} : RvD W (rInTD W.K neg) (oInTD neg) := by
  intro HF H x y dx dy dz Q gd hx hy e q
  cases dy <;> first | (cases e; done) | skip
  rename_i ds
  have e : (if (SeqAt.shaped dx && SeqAt.shaped (.tuple ds)) = true then some (PyData.bool (if neg = true then !(ds.any fun z => PyData.eqv z dx) else ds.any fun z => PyData.eqv z dx)) else none) = some dz := e
  by_cases hs : (SeqAt.shaped dx && SeqAt.shaped (.tuple ds)) = true
  · rw [if_pos hs] at e
    cases e
    obtain ⟨s1, s2⟩ := Bool.and_eq_true_iff.mp hs
    exact ⟨dx, ds, (hx.mono gd.sub).dp (SeqAt.canLay_of_shaped s1), (hy.mono gd.sub).dp (SeqAt.canLay_of_shaped s2), s1, s2, q _ H HF gd.fz (.bl _)⟩
  · rw [if_neg hs] at e
    cases e

/-! ### a text in a module's tuple of texts -/
def inG (neg : Bool) (f : Nv → Option D) (xs : List Str) (ρ : Nv) : Option D := (f ρ).bind fun x => oIn neg x (.tuple (xs.map .str))
theorem flat_strs : ∀ xs : List Str, (xs.map PyData.str).all flatD = true
  | [] => rfl
  | x :: xs => by
    rw [List.map_cons, List.all_cons, flat_strs xs]
    rfl
theorem rpL_strs {K : PySem.W.Frag} {H : Hp} : ∀ xs : List Str, RpL K H (xs.map V.str) (xs.map PyData.str)
  | [] => .nil
  | x :: xs => .cons (.str x) (rpL_strs xs)
theorem de_inG {neg : Bool} {a : Addr} {xs : List Str} (hs : ∀ H, SqT W.K H a (xs.map V.str)) (h : DE W te fe) : DE W (tOp (rIn W.K neg) te (tC (.ref a))) (inG neg fe xs) := by
  intro H0 HF0 σ H HF ρ d Q R e q
  obtain ⟨x, e1, e2⟩ := Option.bind_eq_some_iff.mp e
  have e3 : (if (flatD x && (xs.map PyData.str).all flatD) = true then some (PyData.bool (if neg = true then !((xs.map PyData.str).any fun z => PyData.eqv z x) else (xs.map PyData.str).any fun z => PyData.eqv z x)) else none) = some d := e2
  refine h H0 HF0 σ H HF ρ x _ R e1 fun v H1 HF1 f1 r1 => ?_
  by_cases hf : (flatD x && (xs.map PyData.str).all flatD) = true
  · rw [if_pos hf] at e3
    obtain ⟨k1, k2⟩ := Bool.and_eq_true_iff.mp hf
    cases e3
    have h6 := rpL_strs (K := W.K) (H := HF1) xs
    exact ⟨a, _, rfl, .inr (hs H1), flat_of r1 k1, flatAll_of h6 k2, by rw [inV_of r1 k1 h6 k2]; exact q _ H1 HF1 f1 (.bl _)⟩
  · rw [if_neg hf] at e3
    cases e3
end
end Qd
end
section
set_option Elab.async false
set_option linter.all false
set_option autoImplicit false
set_option maxRecDepth 100000
set_option maxHeartbeats 2000000
/-! Q8: len(set(tuple)); a function held by a name; a def from its body. -/
namespace Qd
open PySem
open PySem.Spec
open PyProof.Rows
open L2
open LamX (ExtN Tabs TabS)

theorem pe_lenSetT {X : Cx} {a : Expr} {ta : TE} {p p2 q pos : Pos} (hg : Gl X "len") (hm : X.mg "len" = none) (hg2 : Gl X "set") (hm2 : X.mg "set" = none) (ha : PE X a ta) (hc : X.calm = true := by rfl)
    (na : starEach [a] X.env = (false, eval a X.env) :: starEach [] X.env := by rfl) : PE X (.Call (.Name "len" p) [.Call (.Name "set" p2) [a] [] q] [] pos) (tLenSetT X.K ta) := by
  refine ⟨fun pins s σ H Q I h => ?_⟩
  refine Call_ (ld_blt I hg hm boot_len ?_)
  refine PyProof.Rows.callWith_builtin1 (PyProof.Rows.args_cons ?_ rfl) rfl rfl
  refine Call_ (ld_blt I hg2 hm2 boot_set ?_)
  refine PyProof.Rows.callWith_type1 (PyProof.Rows.args_cons (thn (ha.run pins s σ H _ I h) fun v s1 ⟨x, H1, I1, r1, q1⟩ => PyProof.Rows.args_nil ?_) na) na rfl
  obtain ⟨l, ns, rfl, hq, hnd, hl, q1⟩ := q1
  cases r1
  obtain ⟨its, r, pt, hz⟩ := I1.tuple hq
  refine call_set_tupI ns (I1.ok.hd hc) (show s1.heap.IsTuple l its.toArray from pt) (ints_of_vals r) (by unfold scanBound; omega) fun h' tk c R1 hcn hk => ?_
  refine PyProof.Rows.args_nil ?_
  obtain ⟨o, es, ep, t, ho, hex, hdt, g, nd, hm3, hb, hf, hn, hr, hl2⟩ := R1
  have I2 : Inv X pins σ H1 { s1 with heap := h', toks := tk } := I1.kept fun b o e => hk b o e
  have hp : (es.toList.map keyOf).Perm ns := by
    rw [List.perm_ext_iff_of_nodup nd hnd]
    intro j
    rw [← hm3 j, decide_eq_true_eq]
  have hsz : es.size = ns.length := by
    have z := hp.length_eq
    rw [List.length_map, Array.length_toList] at z
    exact z
  exact call_len_set ho hex hdt hf (by rw [hsz]; omega) ⟨.int ns.length, H1, I2.tok _, ⟨_, by rw [hsz]⟩, q1⟩
def lenSetV (f : Nv → Option D) (ρ : Nv) : Option D := (f ρ).bind fun x => match x with
  | .tuple ds => (intsD ds).bind fun ns => if ns.Nodup ∧ ns.length ≤ 4000 then some (.int ns.length) else none
  | _ => none
theorem de_lenSetT {W : Wd} {te : TE} {fe : Nv → Option D} (h : DE W te fe) : DE W (tLenSetT W.K te) (lenSetV fe) := by
  intro H0 HF0 σ H HF ρ d Q R e q
  obtain ⟨x, e1, e2⟩ := Option.bind_eq_some_iff.mp e
  cases x <;> first | (cases e2; done) | skip
  rename_i ds
  obtain ⟨ns, e3, e4⟩ := Option.bind_eq_some_iff.mp (show (intsD ds).bind _ = some d from e2)
  by_cases hk : ns.Nodup ∧ ns.length ≤ 4000
  · rw [if_pos hk] at e4
    cases e4
    refine h H0 HF0 σ H HF ρ _ _ R e1 fun v H1 HF1 f1 r1 => ?_
    obtain ⟨a, ys, rfl, hd, hr⟩ := r1.tup_inv
    rw [intsD_some e3] at hr
    exact ⟨a, ns, rfl, by rw [← hr.ints]; exact f1.gd.sqT hd, hk.1, hk.2, q _ H1 HF1 f1 (.int _)⟩
  · rw [if_neg hk] at e4
    cases e4

/-! ### a function that a name holds, called -/
def tFn (W : Wd) (i : Nat) (t : TA) : TE := fun σ H Q => ∃ f, σ[i]? = some (some (.ref f)) ∧ FnH H f ∧ t σ H fun vs H1 => FnH H1 f ∧
  ∀ (A : Around) (outer : List PySem.Env) (s : Shared) (us : List Value), Room W.kf A → Env0 W.prog W.w W.K W.mg W.base A outer s H1 → Vals vs us → codeAny (model W.prog W.w) A (.call (.ref f) ⟨us, []⟩) (CR CX0 outer W.prog W.w H1 s Q E0) s
theorem fn_here {X : Cx} {pins : List (Addr × Obj)} {σ : Sg} {H : Hp} {s : Shared} {f : Addr} (I : Inv X pins σ H s) (h : FnH H f) : PySem.W.FnAt f s.heap := by
  obtain ⟨o, u, h1, h2⟩ := h
  exact h2 _ (I.hok f _ h1).1
theorem pe_fn {X : Cx} {T : List (Addr × Str)} {kf i : Nat} {x : Str} {p pos : Pos} {e : Expr} {es : List Expr} {t : TA} (hr : Room kf X.A) (hN : X.N[i]? = some x) (hv : Vis X.env.scope x) (ha : PA X (e :: es) t)
    (hdb : (x == ("__debug__" : Str)) = false := by decide) (hcd : (x == ("__classdict__" : Str)) = false := by decide)
    (he : starEach (e :: es) X.env = (false, eval e X.env) :: starEach es X.env := by rfl) (hpl : (backTo pos (starEach es X.env)).any (·.1) = false := by rfl) : PE X (.Call (.Name x p) (e :: es) [] pos) (tFn (wdOf X T kf) i t) := by
  refine ⟨fun pins s σ H Q I h => ?_⟩
  obtain ⟨f, hs, h1, ht⟩ := h
  refine wpAny_Call_Name_kw (thn ((pe_var (pos := p) hN hv hdb hcd).run pins s σ H (fun v H1 => v = .ref f ∧ H1 = H) I ⟨.ref f, hs, rfl, rfl⟩) fun u s1 ⟨v, H1, I1, r1, q1⟩ => ?_)
  obtain ⟨rfl, rfl⟩ := q1
  cases r1
  refine PySem.W.callWith_F (fn_here I1 h1) (thn (ha.run pos pins s1 σ _ _ I1 ht) fun us s2 ⟨vs, H2, I2, r, h2, q⟩ => ⟨fn_here I2 h2, ?_⟩) he hpl
  refine wpAny_call (codeAny_mono (q X.A X.stack s2 us hr I2.env0 r) fun r s' hq => ?_)
  cases r with
  | error e => exact hq.elim
  | ok fl =>
    cases fl with
    | ret u => exact I2.after hq
    | next => exact False.elim hq
    | brk => exact False.elim hq
    | cont => exact False.elim hq
def gF (i : Nat) (ρ : Nv) : Option (List D → Option D) := match ρ[i]? with
  | some (some (.fn G)) => some G
  | _ => none
theorem gF_eq {i : Nat} {ρ : Nv} {G : List D → Option D} (h : gF i ρ = some G) : ρ[i]? = some (some (.fn G)) := by
  unfold gF at h
  split at h
  · rename_i d' e
    cases h
    exact e
  · cases h
def fnV (i : Nat) (g : Nv → Option (List D)) (ρ : Nv) : Option D := (gF i ρ).bind fun G => (g ρ).bind G
theorem de_fn {W : Wd} (i : Nat) {t : TA} {g : Nv → Option (List D)} (h : DA W t g) : DE W (tFn W i t) (fnV i g) := by
  intro H0 HF0 σ H HF ρ d Q R e q
  obtain ⟨G, e1, e2⟩ := Option.bind_eq_some_iff.mp e
  obtain ⟨ds, e3, e4⟩ := Option.bind_eq_some_iff.mp e2
  obtain ⟨v, h1, h2⟩ := R.at_ i _ (gF_eq e1)
  obtain ⟨f, rfl, k1, k3⟩ := (show FnIs W HF v G from h2)
  refine ⟨f, h1, k1.mono R.fz.sub, h H0 HF0 σ H HF ρ ds _ R e3 fun vs H1 HF1 f1 r1 => ⟨(k1.mono f1.fro).mono f1.sub, fun A outer s us hr e0 hv => ?_⟩⟩
  exact k3 A outer s H1 HF1 us vs ds d Q hr e0 f1.fro f1.gd hv r1 e4 fun v' H2 HF2 f2 r2 => q v' H2 HF2 (f1.trans f2) r2

/-! ### a def by its body -/
def startN (n N : Nat) (ds : List D) : Nv := ds.map (fun d => some (En.dat d)) ++ List.replicate (N - n) none
def outD : Out → Option D
  | .rt d => some d
  | .nx _ => some .none
  | _ => none
/-- n parameters, N names -/
def runS (n N : Nat) (g : Gs) (ds : List D) : Option D := if ds.length = n then (g (startN n N ds)).bind outD else none
theorem rel_start {W : Wd} {HF H : Hp} {n N : Nat} {Ns : List Str} {vs : List V} {ds : List D} (gd : Gd W HF H) (hr : RpL W.K HF vs ds) (hn : vs.length = n) (hN : Ns.length = N) (hle : n ≤ N) : Rel W H HF (L2.start Ns vs) H HF (startN n N ds) := by
  have hds : ds.length = n := by rw [← hr.length]; exact hn
  have at_ : ∀ {i : Nat} {e : En}, (startN n N ds)[i]? = some (some e) → ∃ d, ds[i]? = some d ∧ e = .dat d := fun {i e} h => by
    unfold startN at h
    by_cases hi : i < (ds.map fun d => some (En.dat d)).length
    · rw [List.getElem?_append_left hi, List.getElem?_map] at h
      obtain ⟨d, h1, h2⟩ := Option.map_eq_some_iff.mp h
      exact ⟨d, h1, (Option.some.inj h2).symm⟩
    · rw [List.getElem?_append_right (by omega), List.getElem?_replicate] at h
      split at h <;> cases h
  refine ⟨gd.fz, ?_, fun i e h => ?_, fun i j e e' a _ h1 _ m1 _ => ?_⟩
  · unfold startN L2.start
    rw [List.length_append, List.length_map, List.length_replicate, List.length_append, List.length_map, List.length_replicate, hn, hN, hds]
  · obtain ⟨d, h1, rfl⟩ := at_ h
    obtain ⟨v, h2, h3⟩ := hr.get h1
    refine ⟨v, ?_, h3⟩
    unfold L2.start
    have hi : i < vs.length := (List.getElem?_eq_some_iff.mp h2).1
    rw [List.getElem?_append_left (by simpa using hi), List.getElem?_map, h2]
    rfl
  · obtain ⟨d, _, rfl⟩ := at_ h1
    cases m1
theorem ds_run {W : Wd} {t : TS} {g : Gs} {n N : Nat} {Ns : List Str} (h : DS W t g) (hN : Ns.length = N) (hle : n ≤ N) {vs : List V} {H : Hp} {Q : VK} {E : XK} (q : SpF W n (runS n N g) vs H Q E) : t { nx := fun _ H' => Q .non H', rt := Q } (L2.start Ns vs) H := by
  obtain ⟨hl, HF, ds, d, gd, hr, e, q⟩ := q
  have hds : ds.length = n := by rw [← hr.length]; exact hl
  unfold runS at e
  rw [if_pos hds] at e
  obtain ⟨o, e1, e2⟩ := Option.bind_eq_some_iff.mp e
  refine h H HF (L2.start Ns vs) H HF _ o _ (rel_start gd hr hl hN hle) e1 ?_
  cases o with
  | rt d' =>
    cases e2
    exact fun v H' HF' f r => q v H' HF' f r
  | nx ρ =>
    cases e2
    exact fun σ' H' HF' R' s' => q .non H' HF' R'.fz .non
  | bk ρ => cases e2
  | ct ρ => cases e2
/-- the text's def x (where it stands, its statement) -/
structure At (W : Wd) (x nm : Str) (st : Stmt) : Prop where
  ex : ∃ f fd, FunD W.K nm nm (defArgs st) (defBody st) (defScope st) [] [] f fd ∧ W.mg x = some (.ref f)
/-- the name x stands for a def that answers F of n data, within k calls -/
structure Df (W : Wd) (k : Nat) (x : Str) (n : Nat) (F : List D → Option D) : Prop where
  ex : ∃ f fd ps, W.mg x = some (.ref f) ∧ PySem.W.keepIn W.K (.ref f) = true ∧ Binds W.K fd ps [] ∧ FnOk W.prog W.w W.K W.mg W.base CX0 k f fd ps (SpF W n F)
theorem Df.mono {W : Wd} {j k : Nat} {x : Str} {n : Nat} {F : List D → Option D} (h : Df W j x n F) (l : j ≤ k) : Df W k x n F := by
  obtain ⟨f, fd, ps, h1, h2, h3, h4⟩ := h.ex
  exact ⟨f, fd, ps, h1, h2, h3, h4.mono l⟩
abbrev bodyCx (W : Wd) (N : List Str) (nm : Str) (st : Stmt) (f : Addr) (cdv : Value) (A : Around) (outer : List PySem.Env) (s : Shared) (H : Hp) (E : XK) : Cx := (cxOf CX0 W.prog W.w W.K W.mg W.base N nm (defScope st) f cdv A outer s H E).nox
theorem df_mk {W : Wd} {x nm : Str} {st : Stmt} {Ns ps : List Str} {n N k : Nat} {g : Gs} (a : At W x nm st) (S : FnScope Ns ps (defScope st)) (hn : ps.length = n) (hN : Ns.length = N) (hle : n ≤ N)
    (hb : ∀ (kV doc pm : Value) (an : Option Addr) (cdv ct : Value) (us : List Value), us.length = ps.length → bindArgs (PySem.W.fnOf nm nm (defArgs st) (defBody st) (defScope st) .none kV doc pm an cdv ct) ⟨us, []⟩ = pure (ps.zip us))
    (body : ∀ (f : Addr) (cdv : Value) (A : Around) (outer : List PySem.Env) (s : Shared) (H : Hp) (E : XK), Room k (A.deeper (envOfC nm (defScope st) s.heap.objs.size f cdv)) → ∃ t, PSs (bodyCx W Ns nm st f cdv A outer s H E) (defBody st) t ∧ DS W t g) :
    Df W (k + 1) x n (runS n N g) := by
  obtain ⟨f, fd, F, hm⟩ := a.ex
  refine ⟨f, fd, ps, hm, F.kp, FunD.bindsN F hb, ?_⟩
  refine F.ok S (fun vs H Q E h => by rw [hn]; exact h.1) fun cdv A outer s H vs Q E hr h => ?_
  obtain ⟨t, h1, h2⟩ := body f cdv A outer s H E hr
  exact ⟨t, h1.nox, ds_run h2 hN hle h⟩
/-- the call of such a def -/
theorem pe_df {X : Cx} {T : List (Addr × Str)} {kf k n : Nat} {x : Str} {F : List D → Option D} {p pos : Pos} {e : Expr} {es : List Expr} {t : TA} (d : Df (wdOf X T kf) k x n F) (hr : Room k X.A) (hg : Gl X x) (ha : PA X (e :: es) t) (hdb : (x == ("__debug__" : Str)) = false := by decide)
    (he : starEach (e :: es) X.env = (false, eval e X.env) :: starEach es X.env := by rfl) (hpl : (backTo pos (starEach es X.env)).any (·.1) = false := by rfl) : PE X (.Call (.Name x p) (e :: es) [] pos) (tCall (SpF (wdOf X T kf) n F) [] E0 t) := by
  obtain ⟨f, fd, ps, h1, h2, h3, h4⟩ := d.ex
  exact pe_call h4 hr hg h1 h2 h3 .nil pass0 ha hdb he hpl
end Qd
end
section
set_option Elab.async false
set_option linter.all false
set_option autoImplicit false
set_option maxRecDepth 100000
set_option maxHeartbeats 2000000
/-! Q9: one judgement for an expression's walk and its answer; a context that a def's expressions have in common. -/
namespace Qd
open PySem
open PySem.Spec
open PyProof.Rows
open L2
open LamX (ExtN Tabs TabS)

structure Ct where
  W : Wd
  k : Nat
  sc : Scope
  N : List Str
  L : List Nat
  M : List Nat
  gs : List Str
  ml : Option (Addr × Addr × Str)
structure GoodX (C : Ct) (X : Cx) : Prop where
  w : ∃ T kf, C.W = wdOf X T kf
  hN : X.N = C.N
  nd : C.N.Nodup
  room : Room C.k X.A
  calm : X.calm = true
  po : PassesOwn (model X.prog X.w) X.A X.env X.xe
  hsc : X.env.scope = C.sc
  vis : ∀ i ∈ C.L, ∀ x : Str, C.N[i]? = some x → Vis C.sc x ∧ (x == ("__debug__" : Str)) = false ∧ (x == ("__classdict__" : Str)) = false
  loc : ∀ i ∈ C.M, ∀ x : Str, C.N[i]? = some x → Loc C.sc x ∧ (X.fn x = true ∨ C.sc.names.lookup x = some .local)
  gl : ∀ (j : Nat) (x : Str), C.gs[j]? = some x → C.sc.names.lookup x = some .globalImplicit ∧ (x == ("__debug__" : Str)) = false
  bn : ∀ x ∈ blts, C.W.mg x = none
  lam : ∀ (c P : Addr) (q : Str), C.ml = some (c, P, q) → X.env.code = .ref c ∧ X.env.qual ++ "<lambda>" = q ∧ (∀ x : Str, X.fn x = true) ∧ (P, q) ∈ C.W.T ∧ (∀ p ∈ C.W.T, p.1 = P → p.2 = q) ∧ LamX.TabB C.W.base C.W.mg c P
section
variable {C : Ct} {X : Cx}
theorem GoodX.K (h : GoodX C X) : C.W.K = X.K := by obtain ⟨T, kf, e⟩ := h.w; rw [e]
theorem GoodX.mgE (h : GoodX C X) : C.W.mg = X.mg := by obtain ⟨T, kf, e⟩ := h.w; rw [e]
theorem GoodX.Gl (h : GoodX C X) {j : Nat} {x : Str} (e : C.gs[j]? = some x) : L2.Gl X x := by
  show X.env.scope.names.lookup x = _
  rw [h.hsc]
  exact (h.gl j x e).1
theorem GoodX.Nx (h : GoodX C X) {i : Nat} {x : Str} (e : C.N[i]? = some x) : X.N[i]? = some x := by rw [h.hN]; exact e
theorem GoodX.ndX (h : GoodX C X) : X.N.Nodup := by rw [h.hN]; exact h.nd
theorem GoodX.Vx (h : GoodX C X) {i : Nat} {x : Str} (m : i ∈ C.L) (e : C.N[i]? = some x) : Vis X.env.scope x := by rw [h.hsc]; exact (h.vis i m x e).1
theorem GoodX.Lx (h : GoodX C X) {i : Nat} {x : Str} (m : i ∈ C.M) (e : C.N[i]? = some x) : Loc X.env.scope x := by rw [h.hsc]; exact (h.loc i m x e).1
theorem GoodX.Fx (h : GoodX C X) {i : Nat} {x : Str} (m : i ∈ C.M) (e : C.N[i]? = some x) : X.fn x = true ∨ X.env.scope.names.lookup x = some .local := by rw [h.hsc]; exact (h.loc i m x e).2
theorem GoodX.mgN (h : GoodX C X) {x : Str} (m : x ∈ blts) : X.mg x = none := by rw [← h.mgE]; exact h.bn x m
theorem GoodX.un (h : GoodX C X) : X.A.units + 65 < cLine := by
  have := h.room.un
  omega
end

/-! ### the judgements -/
def BE (C : Ct) (e : Expr) (f : Nv → Option D) : Prop := ∃ t, DE C.W t f ∧ ∀ X, GoodX C X → PE X e t
def BT (C : Ct) (e : Expr) (f : Nv → Option Bool) : Prop := ∃ t, DT C.W t f ∧ ∀ X, GoodX C X → PT X e t
def BWt (C : Ct) (e : Expr) (f : Nv → Option Bool) : Prop := ∃ t, DT C.W t f ∧ ∀ X, GoodX C X → PW X e t
def BN (C : Ct) (e : Expr) (f : Nv → Option (List D)) : Prop := ∃ t, DN C.W t f ∧ ∀ X, GoodX C X → PE X e t
def BA (C : Ct) (es : List Expr) (f : Nv → Option (List D)) : Prop := ∃ t, DA C.W t f ∧ ∀ X, GoodX C X → PA X es t
def BO (C : Ct) (e : Option Expr) (f : Nv → Option (Option Int)) : Prop := ∃ t, DO C.W t f ∧ ∀ X, GoodX C X → PO X e t
def BR (C : Ct) (e : Expr) (f : Nv → Option (Int × Int)) : Prop := ∃ t, DR C.W t f ∧ ∀ X, GoodX C X → PRg X e t
def BI (C : Ct) (tg e : Expr) (f : Nv → Option (List D)) : Prop := ∃ t, DI C.W t f ∧ ∀ X, GoodX C X → PI X tg e t
def BG (C : Ct) (js : List Nat) (tg : Expr) (a : D → Nv → Option Nv) : Prop := ∃ g, DGj C.W js g a ∧ ∀ X, GoodX C X → PG X tg g
def BGs (C : Ct) (js : List Nat) (tg : List Expr) (a : List D → Nv → Option Nv) : Prop := ∃ g, DGs C.W js g a ∧ ∀ X, GoodX C X → PGs X tg g
def BS (C : Ct) (st : Stmt) (g : Gs) : Prop := ∃ t, DS C.W t g ∧ ∀ X, GoodX C X → PS X st t
def BSs (C : Ct) (st : List Stmt) (g : Gs) : Prop := ∃ t, DS C.W t g ∧ ∀ X, GoodX C X → PSs X st t
/-- an operation by values -/
def BOp (C : Ct) (op : Operator) (o : D → D → Option D) : Prop := ∃ r, RvD C.W r o ∧ ∀ X, GoodX C X → OpR X (binaryOp op) r
def BCm (C : Ct) (op : CmpOp) (o : D → D → Option D) : Prop := ∃ r, RvD C.W r o ∧ ∀ X, GoodX C X → OpR X (compareOp op) r

section
variable {C : Ct}
/-! ### names, constants -/
theorem bv {x : Str} {p : Pos} (i : Nat) (hN : C.N[i]? = some x) (m : i ∈ C.L) : BE C (.Name x p) (gD i) :=
  ⟨_, de_var i, fun X h => pe_var (h.Nx hN) (h.Vx m hN) (h.vis i m x hN).2.1 (h.vis i m x hN).2.2⟩
theorem bi {i : Int} {j p} : BE C (.Constant (.int i) j p) (fun _ => some (.int i)) := ⟨_, de_int, fun X h => pe_int⟩
theorem bb {i : Bool} {j p} : BE C (.Constant (.bool i) j p) (fun _ => some (.bool i)) := ⟨_, de_bl, fun X h => pe_bl⟩
theorem bnon {j p} : BE C (.Constant .none j p) (fun _ => some .none) := ⟨_, de_non, fun X h => pe_non⟩
theorem bs {x : Str} {j p} : BE C (.Constant (.str x) j p) (fun _ => some (.str x)) := ⟨_, de_str, fun X h => pe_str⟩
/-- a module's int -/
theorem bgi {x : Str} {p : Pos} {i : Int} (j : Nat) (hj : C.gs[j]? = some x) (hm : ∃ t, C.W.mg x = some (.int i t)) : BE C (.Name x p) (fun _ => some (.int i)) :=
  ⟨_, de_int, fun X h => by
    obtain ⟨t, ht⟩ := hm
    rw [h.mgE] at ht
    exact pe_glob (h.Gl hj) ht ⟨t, rfl⟩ (h.gl j x hj).2⟩

/-! ### binary operations -/
variable {a b c e : Expr} {fa fb fc fe : Nv → Option D} {pos : Pos}
theorem bop {op : Operator} {o : D → D → Option D} (ho : BOp C op o) (ha : BE C a fa) (hb : BE C b fb) : BE C (.BinOp a op b pos) (b2 fa fb o) := by
  obtain ⟨r, r1, r2⟩ := ho
  obtain ⟨ta, a1, a2⟩ := ha
  obtain ⟨tb', b1', b2'⟩ := hb
  exact ⟨_, de_op r1 a1 b1', fun X h => pe_op (r2 X h) (a2 X h) (b2' X h)⟩
def oAdd : D → D → Option D
  | .int i, .int j => some (.int (i + j))
  | .tuple xs, .tuple ys => oCatT (.tuple xs) (.tuple ys)
  | .list xs, .list ys => (oCatL (.list xs) (.list ys)).map .list
  | _, _ => none
theorem rvN_e {W : Wd} {r : R2} {o : D → D → Option (List D)} (h : RvN W r o) : RvD W r (fun x y => (o x y).map .list) := by
  intro HF H x y dx dy dz Q gd hx hy e q
  obtain ⟨ds, e1, rfl⟩ := Option.map_eq_some_iff.mp e
  refine h HF H x y dx dy ds Q gd hx hy e1 fun p vs hp hr => ?_
  have sF : Same HF (upd HF p (.lst vs)) := fun b u z => by rw [upd_ne (ne_of_none z (Same.free gd.sub hp))]; exact z
  exact q _ _ (upd HF p (.lst vs)) (gd.laid hp (fun ps z => by cases z)) (.lst (.inl upd_same) (RpL.mono sF hr))
theorem bAdd : BOp C .Add oAdd := by
  refine ⟨fun x y H Q => rI0 (fun i j => .int (i + j)) x y H Q ∨ rCatA C.W.K x y H Q ∨ rCatR x y H Q, ?_, fun X h => ?_⟩
  · intro HF H x y dx dy dz Q gd hx hy e q
    cases dx with
    | int i => cases dy with
      | int j => exact .inl (rv_I0 (g := fun i j => i + j) HF H x y _ _ dz Q gd hx hy e q)
      | _ => cases e
    | tuple xs => cases dy with
      | tuple ys => exact .inr (.inl (rv_catT HF H x y _ _ dz Q gd hx hy e q))
      | _ => cases e
    | list xs => cases dy with
      | list ys => exact .inr (.inr (rvN_e rn_catL HF H x y _ _ dz Q gd hx hy e q))
      | _ => cases e
    | _ => cases e
  · rw [h.K]
    exact op_add.or (op_catA.or op_catR)
theorem bSub : BOp C .Sub (oI fun i j => i - j) := ⟨_, rv_I0, fun X h => op_sub⟩
def oMul : D → D → Option D
  | .int i, .int j => oIC cMul (fun i j => i * j) (.int i) (.int j)
  | .tuple xs, .int j => oRepT (.tuple xs) (.int j)
  | _, _ => none
theorem bMul : BOp C .Mult oMul := by
  refine ⟨fun x y H Q => rI CMul (fun i j => .int (i * j)) x y H Q ∨ rRepT C.W.K x y H Q, ?_, fun X h => ?_⟩
  · intro HF H x y dx dy dz Q gd hx hy e q
    cases dx with
    | int i => cases dy with
      | int j => exact .inl (rv_mul HF H x y _ _ dz Q gd hx hy e q)
      | _ => cases e
    | tuple xs => cases dy with
      | int j => exact .inr (rv_repT HF H x y _ _ dz Q gd hx hy e q)
      | _ => cases e
    | _ => cases e
  · rw [h.K]
    exact op_mul.or op_repT
theorem bDiv : BOp C .FloorDiv (oIC cDiv fun i j => i / j) := ⟨_, rv_div, fun X h => op_fdiv⟩
theorem bMod : BOp C .Mod (oIC cMod fun i j => i % j) := ⟨_, rv_mod, fun X h => op_mod⟩
theorem bPow : BOp C .Pow (oIC cPow fun i j => i ^ j.toNat) := ⟨_, rv_pow, fun X h => op_pow⟩
theorem bAnd' : BOp C .BitAnd (oI fun i j => Builtin.bitAnd i j) := ⟨_, rv_I0, fun X h => op_and⟩
theorem bneg (ha : BE C a fa) : BE C (.UnaryOp .USub a pos) (b1 fa oNeg) := by
  obtain ⟨ta, a1, a2⟩ := ha
  exact ⟨_, de_un ru_neg a1, fun X h => pe_un un_neg (a2 X h)⟩

/-! ### comparisons -/
theorem bEq : BCm C .Eq (oEqD false) := ⟨_, rv_eqD, fun X h => by rw [h.K]; exact op_eqD (by have := h.un; omega)⟩
theorem bNe : BCm C .NotEq (oEqD true) := ⟨_, rv_neD, fun X h => by rw [h.K]; exact op_neD (by have := h.un; omega)⟩
theorem bLt : BCm C .Lt (oB fun i j => decide (i < j)) := ⟨_, rv_B0, fun X h => op_lt⟩
theorem bLe : BCm C .LtE (oB fun i j => decide (i ≤ j)) := ⟨_, rv_B0, fun X h => op_le⟩
theorem bGt : BCm C .Gt (oB fun i j => decide (j < i)) := ⟨_, rv_B0, fun X h => op_gt⟩
theorem bGe : BCm C .GtE (oB fun i j => decide (j ≤ i)) := ⟨_, rv_B0, fun X h => op_ge⟩
theorem bIs : BCm C .Is (oIsN false) := ⟨_, rv_isN, fun X h => op_isN⟩
theorem bIsNot : BCm C .IsNot (oIsN true) := ⟨_, rv_notN, fun X h => op_notN⟩
theorem bIsB : BCm C .Is oIsB := ⟨_, rv_isB, fun X h => op_isBl⟩
theorem bIn : BCm C .In (oIn false) := ⟨_, rv_in, fun X h => by rw [h.K]; exact op_in_seq⟩
theorem bNotIn : BCm C .NotIn (oIn true) := ⟨_, rv_in, fun X h => by rw [h.K]; exact op_notIn_seq⟩
theorem bNotInT : BCm C .NotIn (oInTD true) := ⟨_, rv_inTD, fun X h => by rw [h.K]; exact op_notInTD h.un⟩
theorem bcm {op : CmpOp} {o : D → D → Option D} (ho : BCm C op o) (ha : BE C a fa) (hb : BE C b fb) (hm : behindInMarks op b = false := by first | exact nobehind _ (by decide) (by decide) | with_unfolding_all rfl) : BE C (.Compare a [op] [b] pos) (b2 fa fb o) := by
  obtain ⟨r, r1, r2⟩ := ho
  obtain ⟨ta, a1, a2⟩ := ha
  obtain ⟨tb', b1', b2'⟩ := hb
  exact ⟨_, de_op r1 a1 b1', fun X h => pe_cmpR (r2 X h) (a2 X h) (b2' X h) hm⟩
theorem tcm {op : CmpOp} {o : D → D → Option D} (ho : BCm C op o) (ha : BE C a fa) (hb : BE C b fb) (hm : behindInMarks op b = false := by first | exact nobehind _ (by decide) (by decide) | with_unfolding_all rfl) : BT C (.Compare a [op] [b] pos) (tb (b2 fa fb o)) := by
  obtain ⟨r, r1, r2⟩ := ho
  obtain ⟨ta, a1, a2⟩ := ha
  obtain ⟨tb', b1', b2'⟩ := hb
  exact ⟨_, dt_test (de_op r1 a1 b1'), fun X h => pt_cmpR (r2 X h) (a2 X h) (b2' X h) hm⟩
theorem bch {op op' : CmpOp} {o o' : D → D → Option D} (ho : BCm C op o) (ho' : BCm C op' o') (ha : BE C a fa) (hb : BE C b fb) (hc : BE C c fc) (hm : lastMarks [op, op'] [b, c] = false := by with_unfolding_all rfl) : BE C (.Compare a [op, op'] [b, c] pos) (chV fa fb fc o o') := by
  obtain ⟨r, r1, r2⟩ := ho
  obtain ⟨r', r1', r2'⟩ := ho'
  obtain ⟨ta, a1, a2⟩ := ha
  obtain ⟨tb', b1', b2'⟩ := hb
  obtain ⟨tc, c1, c2⟩ := hc
  exact ⟨_, de_chain r1 r1' a1 b1' c1, fun X h => pe_chain (r2 X h) (r2' X h) (a2 X h) (b2' X h) (c2 X h) hm⟩
theorem tch {op op' : CmpOp} {o o' : D → D → Option D} (ho : BCm C op o) (ho' : BCm C op' o') (ha : BE C a fa) (hb : BE C b fb) (hc : BE C c fc) (hm : lastMarks [op, op'] [b, c] = false := by with_unfolding_all rfl) : BT C (.Compare a [op, op'] [b, c] pos) (tb (chV fa fb fc o o')) := by
  obtain ⟨r, r1, r2⟩ := ho
  obtain ⟨r', r1', r2'⟩ := ho'
  obtain ⟨ta, a1, a2⟩ := ha
  obtain ⟨tb', b1', b2'⟩ := hb
  obtain ⟨tc, c1, c2⟩ := hc
  exact ⟨_, dt_test (de_chain r1 r1' a1 b1' c1), fun X h => pt_chain (r2 X h) (r2' X h) (a2 X h) (b2' X h) (c2 X h) hm⟩

/-! ### and, or, not, if -/
variable {ga gb : Nv → Option Bool} {rest : List Expr}
theorem tval (ha : BE C a fa) (he : ∀ (X : Cx) whole, isTrue a X.env whole = (do let v ← whole; standAt a.pos; holding [v] (truthy v)) := by intro _ _; rfl) : BT C a (tb fa) := by
  obtain ⟨ta, a1, a2⟩ := ha
  exact ⟨_, dt_B a1, fun X h => pt_val (a2 X h) (he X)⟩
theorem wand1 (ha : BT C a ga) : BWt C (.BoolOp .And [a] pos) ga := by
  obtain ⟨ta, a1, a2⟩ := ha
  exact ⟨_, a1, fun X h => pw_and1 (a2 X h)⟩
theorem wor1 (ha : BT C a ga) : BWt C (.BoolOp .Or [a] pos) ga := by
  obtain ⟨ta, a1, a2⟩ := ha
  exact ⟨_, a1, fun X h => pw_or1 (a2 X h)⟩
theorem wand (ha : BT C a ga) (hb : BWt C (.BoolOp .And (b :: rest) pos) gb) : BWt C (.BoolOp .And (a :: b :: rest) pos) (andT ga gb) := by
  obtain ⟨ta, a1, a2⟩ := ha
  obtain ⟨tb', b1', b2'⟩ := hb
  exact ⟨_, dt_and a1 b1', fun X h => pw_and (a2 X h) (b2' X h)⟩
theorem wor (ha : BT C a ga) (hb : BWt C (.BoolOp .Or (b :: rest) pos) gb) : BWt C (.BoolOp .Or (a :: b :: rest) pos) (orT ga gb) := by
  obtain ⟨ta, a1, a2⟩ := ha
  obtain ⟨tb', b1', b2'⟩ := hb
  exact ⟨_, dt_or a1 b1', fun X h => pw_or (a2 X h) (b2' X h)⟩
theorem tw (ha : BWt C a ga) : BT C a ga := by
  obtain ⟨ta, a1, a2⟩ := ha
  exact ⟨_, a1, fun X h => (a2 X h).pt⟩
theorem tnot (ha : BT C a ga) : BT C (.UnaryOp .Not a pos) (notT ga) := by
  obtain ⟨ta, a1, a2⟩ := ha
  exact ⟨_, dt_not a1, fun X h => pt_not (a2 X h)⟩
theorem bone {op} (ha : BE C a fa) : BE C (.BoolOp op [a] pos) fa := by
  obtain ⟨ta, a1, a2⟩ := ha
  exact ⟨_, a1, fun X h => pe_one (a2 X h)⟩
theorem band (ha : BE C a fa) (hb : BE C (.BoolOp .And (b :: rest) pos) fb) : BE C (.BoolOp .And (a :: b :: rest) pos) (andV fa fb) := by
  obtain ⟨ta, a1, a2⟩ := ha
  obtain ⟨tb', b1', b2'⟩ := hb
  exact ⟨_, de_and a1 b1', fun X h => pe_and (a2 X h) (b2' X h)⟩
theorem bor (ha : BE C a fa) (hb : BE C (.BoolOp .Or (b :: rest) pos) fb) : BE C (.BoolOp .Or (a :: b :: rest) pos) (orV fa fb) := by
  obtain ⟨ta, a1, a2⟩ := ha
  obtain ⟨tb', b1', b2'⟩ := hb
  exact ⟨_, de_or a1 b1', fun X h => pe_or (a2 X h) (b2' X h)⟩
theorem bnot (ha : BE C a fa) : BE C (.UnaryOp .Not a pos) (notV fa) := by
  obtain ⟨ta, a1, a2⟩ := ha
  exact ⟨_, de_not a1, fun X h => pe_not (a2 X h)⟩
theorem bife (hc : BT C c ga) (ha : BE C a fa) (hb : BE C b fb) : BE C (.IfExp c a b pos) (ifV ga fa fb) := by
  obtain ⟨tc, c1, c2⟩ := hc
  obtain ⟨ta, a1, a2⟩ := ha
  obtain ⟨tb', b1', b2'⟩ := hb
  exact ⟨_, de_if c1 a1 b1', fun X h => pe_ifExp (c2 X h) (a2 X h) (b2' X h)⟩

/-! ### lists of expressions, tuples, lists, subscripts, slices -/
variable {es : List Expr} {fs : Nv → Option (List D)}
theorem anil : BA C [] nilA := ⟨_, da_nil, fun X h => pa_nil⟩
theorem acons (ha : BE C a fa) (hs : BA C es fs) (hst : ∀ X : Cx, starEach (a :: es) X.env = (false, eval a X.env) :: starEach es X.env := by intro _; rfl) : BA C (a :: es) (consA fa fs) := by
  obtain ⟨ta, a1, a2⟩ := ha
  obtain ⟨ts, s1, s2⟩ := hs
  exact ⟨_, da_cons a1 s1, fun X h => pa_cons (a2 X h) (s2 X h) (hst X)⟩
theorem btup {x1} (hs : BA C es fs) : BE C (.Tuple es x1 pos) (tupV fs) := by
  obtain ⟨ts, s1, s2⟩ := hs
  exact ⟨_, de_tup s1, fun X h => pe_tup (s2 X h)⟩
theorem nlst (hs : BA C es fs) : BN C (.List es pos) (lstV fs) := by
  obtain ⟨ts, s1, s2⟩ := hs
  exact ⟨_, dn_lst s1, fun X h => pe_lst (s2 X h)⟩
def lsV (f : Nv → Option (List D)) (ρ : Nv) : Option D := (f ρ).map PyData.list
theorem nle (ha : BN C a fs) : BE C a (lsV fs) := by
  obtain ⟨ta, a1, a2⟩ := ha
  exact ⟨_, a1.e, a2⟩
theorem bix (ha : BE C a fa) (hb : BE C b fb) (hs : PlainIx b := by intro _ _; rfl) : BE C (.Subscript a b pos) (b2 fa fb oIx) := by
  obtain ⟨ta, a1, a2⟩ := ha
  obtain ⟨tb', b1', b2'⟩ := hb
  exact ⟨_, de_op rv_ix a1 b1', fun X h => by rw [h.K]; exact pe_ix ix_seq (a2 X h) (b2' X h) hs⟩
theorem pno : BO C none noP := ⟨_, do_none, fun X h => po_none⟩
theorem psome (ha : BE C a fa) : BO C (some a) (someP fa) := by
  obtain ⟨ta, a1, a2⟩ := ha
  exact ⟨_, do_some a1, fun X h => po_some (a2 X h)⟩
theorem bslT {lo hi : Option Expr} {fl fh : Nv → Option (Option Int)} {p2 : Pos} (ha : BE C a fa) (hl : BO C lo fl) (hh : BO C hi fh) : BE C (.Subscript a (.Slice lo hi none p2) pos) (slV fa fl fh oSlT) := by
  obtain ⟨ta, a1, a2⟩ := ha
  obtain ⟨tl, l1, l2⟩ := hl
  obtain ⟨th, h1, h2⟩ := hh
  exact ⟨_, de_slT a1 l1 h1, fun X h => by rw [h.K]; exact pe_slice sl_tupA (a2 X h) (l2 X h) (h2 X h)⟩
theorem nslL {lo hi : Option Expr} {fl fh : Nv → Option (Option Int)} {p2 : Pos} (ha : BE C a fa) (hl : BO C lo fl) (hh : BO C hi fh) : BN C (.Subscript a (.Slice lo hi none p2) pos) (slV fa fl fh oSlL) := by
  obtain ⟨ta, a1, a2⟩ := ha
  obtain ⟨tl, l1, l2⟩ := hl
  obtain ⟨th, h1, h2⟩ := hh
  exact ⟨_, dn_slL a1 l1 h1, fun X h => by rw [h.K]; exact pe_slice sl_list (a2 X h) (l2 X h) (h2 X h)⟩
theorem nrev {k : Nat} {p1 p2 p3 : Pos} (ha : BE C a fa) : BN C (.Subscript a (.Slice none none (some (.UnaryOp .USub (.Constant (.int 1) k p1) p2)) p3) pos) (revV fa) := by
  obtain ⟨ta, a1, a2⟩ := ha
  exact ⟨_, dn_rev a1, fun X h => by rw [h.K]; exact pe_revL (a2 X h)⟩

/-! ### calls of built-ins -/
variable {x : Str} {p : Pos}
theorem bcb {id : String} {r : List V → Hp → VK → Prop} {o : List D → Option D} (j : Nat) (hj : C.gs[j]? = some x) (hr : RcD C.W r o) (hc : ∀ X, GoodX C X → CallR X (.builtin id) r) (ha : BA C (a :: es) fs) (hb : x ∈ blts) (hv : bootBuiltins x = some (.builtin id)) (hn : x ≠ "__name__")
    (he : ∀ X : Cx, starEach (a :: es) X.env = (false, eval a X.env) :: starEach es X.env) (hpl : ∀ X : Cx, (backTo pos (starEach es X.env)).any (·.1) = false) : BE C (.Call (.Name x p) (a :: es) [] pos) (c1 fs o) := by
  obtain ⟨ts, s1, s2⟩ := ha
  exact ⟨_, de_cb hr s1, fun X h => pe_callB (hc X h) (h.Gl hj) (h.mgN hb) hv (s2 X h) hn (h.gl j x hj).2 (he X) (hpl X)⟩
theorem bcty {T : String} {r : List V → Hp → VK → Prop} {o : List D → Option D} (j : Nat) (hj : C.gs[j]? = some x) (hr : RcD C.W r o) (hc : ∀ X, GoodX C X → CallR X (.type T) r) (ha : BA C (a :: es) fs) (hb : x ∈ blts) (hv : bootBuiltins x = some (.type T)) (hn : x ≠ "__name__")
    (he : ∀ X : Cx, starEach (a :: es) X.env = (false, eval a X.env) :: starEach es X.env) (hpl : ∀ X : Cx, (backTo pos (starEach es X.env)).any (·.1) = false) : BE C (.Call (.Name x p) (a :: es) [] pos) (c1 fs o) := by
  obtain ⟨ts, s1, s2⟩ := ha
  exact ⟨_, de_cb hr s1, fun X h => pe_callTy (hc X h) (h.Gl hj) (h.mgN hb) hv (s2 X h) hn (h.gl j x hj).2 (he X) (hpl X)⟩
theorem bctyN {T : String} {r : List V → Hp → VK → Prop} {o : List D → Option (List D)} (j : Nat) (hj : C.gs[j]? = some x) (hr : RcN C.W r o) (hc : ∀ X, GoodX C X → CallR X (.type T) r) (ha : BA C (a :: es) fs) (hb : x ∈ blts) (hv : bootBuiltins x = some (.type T)) (hn : x ≠ "__name__")
    (he : ∀ X : Cx, starEach (a :: es) X.env = (false, eval a X.env) :: starEach es X.env) (hpl : ∀ X : Cx, (backTo pos (starEach es X.env)).any (·.1) = false) : BN C (.Call (.Name x p) (a :: es) [] pos) (cN fs o) := by
  obtain ⟨ts, s1, s2⟩ := ha
  exact ⟨_, dn_cb hr s1, fun X h => pe_callTy (hc X h) (h.Gl hj) (h.mgN hb) hv (s2 X h) hn (h.gl j x hj).2 (he X) (hpl X)⟩
theorem bcbN {id : String} {r : List V → Hp → VK → Prop} {o : List D → Option (List D)} (j : Nat) (hj : C.gs[j]? = some x) (hr : RcN C.W r o) (hc : ∀ X, GoodX C X → CallR X (.builtin id) r) (ha : BA C (a :: es) fs) (hb : x ∈ blts) (hv : bootBuiltins x = some (.builtin id)) (hn : x ≠ "__name__")
    (he : ∀ X : Cx, starEach (a :: es) X.env = (false, eval a X.env) :: starEach es X.env) (hpl : ∀ X : Cx, (backTo pos (starEach es X.env)).any (·.1) = false) : BN C (.Call (.Name x p) (a :: es) [] pos) (cN fs o) := by
  obtain ⟨ts, s1, s2⟩ := ha
  exact ⟨_, dn_cb hr s1, fun X h => pe_callB (hc X h) (h.Gl hj) (h.mgN hb) hv (s2 X h) hn (h.gl j x hj).2 (he X) (hpl X)⟩
theorem in_blts {y : Str} (h : decide (y ∈ blts) = true) : y ∈ blts := of_decide_eq_true h
section
variable (j : Nat) (ha : BA C (a :: es) fs)
  (he : ∀ X : Cx, starEach (a :: es) X.env = (false, eval a X.env) :: starEach es X.env) (hpl : ∀ X : Cx, (backTo pos (starEach es X.env)).any (·.1) = false)
include ha he hpl
theorem blen0 (hj : C.gs[j]? = some "len") : BE C (.Call (.Name "len" p) (a :: es) [] pos) (c1 fs oLen) := bcb (id := "len") j hj rc_len (fun X h => by rw [h.K]; exact call_len_seq) ha (by decide) rfl (by decide) he hpl
theorem babs0 (hj : C.gs[j]? = some "abs") : BE C (.Call (.Name "abs" p) (a :: es) [] pos) (c1 fs oAbs) := bcb (id := "abs") j hj rc_abs (fun X h => call_abs) ha (by decide) rfl (by decide) he hpl
theorem bmin0 (hj : C.gs[j]? = some "min") : BE C (.Call (.Name "min" p) (a :: es) [] pos) (c1 fs oMin2) := bcb (id := "min") j hj rc_min2 (fun X h => call_min2 h.calm) ha (by decide) rfl (by decide) he hpl
theorem bmax0 (hj : C.gs[j]? = some "max") : BE C (.Call (.Name "max" p) (a :: es) [] pos) (c1 fs oMax2) := bcb (id := "max") j hj rc_max2 (fun X h => call_max2 h.calm) ha (by decide) rfl (by decide) he hpl
theorem bsum0 (hj : C.gs[j]? = some "sum") : BE C (.Call (.Name "sum" p) (a :: es) [] pos) (c1 fs oSum) := bcb (id := "sum") j hj rc_sum (fun X h => by rw [h.K]; exact cr_sum h.calm) ha (by decide) rfl (by decide) he hpl
theorem bany0 (hj : C.gs[j]? = some "any") : BE C (.Call (.Name "any" p) (a :: es) [] pos) (c1 fs oAny) := bcb (id := "any") j hj rc_any (fun X h => by rw [h.K]; exact cr_any h.calm) ha (by decide) rfl (by decide) he hpl
theorem ball0 (hj : C.gs[j]? = some "all") : BE C (.Call (.Name "all" p) (a :: es) [] pos) (c1 fs oAll) := bcb (id := "all") j hj rc_all (fun X h => by rw [h.K]; exact cr_all h.calm) ha (by decide) rfl (by decide) he hpl
theorem bint0 (hj : C.gs[j]? = some "int") : BE C (.Call (.Name "int" p) (a :: es) [] pos) (c1 fs oInt) := bcty (T := "int") j hj rc_int (fun X h => call_int1) ha (by decide) rfl (by decide) he hpl
theorem btup0 (hj : C.gs[j]? = some "tuple") : BE C (.Call (.Name "tuple" p) (a :: es) [] pos) (c1 fs oTupOf) := bcty (T := "tuple") j hj rc_tupOf (fun X h => by rw [h.K]; exact call_tuple_of) ha (by decide) rfl (by decide) he hpl
theorem nlist0 (hj : C.gs[j]? = some "list") : BN C (.Call (.Name "list" p) (a :: es) [] pos) (cN fs oListOf) := bctyN (T := "list") j hj rc_listOf (fun X h => by rw [h.K]; exact call_list_of) ha (by decide) rfl (by decide) he hpl
theorem nsort0 (hj : C.gs[j]? = some "sorted") : BN C (.Call (.Name "sorted" p) (a :: es) [] pos) (cN fs oSorted) := bcbN (id := "sorted") j hj rn_sort (fun X h => by rw [h.K]; exact call_sortU (by have := h.un; omega)) ha (by decide) rfl (by decide) he hpl
end
end
end Qd
end
section
set_option Elab.async false
set_option linter.all false
set_option autoImplicit false
set_option maxRecDepth 100000
set_option maxHeartbeats 2000000
/-! Q10: targets, iterators, comprehensions, calls of defs, statements, a def made. -/
namespace Qd
open PySem
open PySem.Spec
open PyProof.Rows
open L2
open LamX (ExtN Tabs TabS)

section
variable {C : Ct} {a b c e : Expr} {fa fb fc fe : Nv → Option D} {pos : Pos} {es : List Expr} {fs : Nv → Option (List D)} {x y : Str} {p : Pos}
/-! ### targets -/
theorem gname (i : Nat) (hi : C.N[i]? = some x) (m : i ∈ C.M) : BG C [i] (.Name x pos) (setN i) :=
  ⟨_, dg_name i, fun X h => pg_name h.ndX (h.Nx hi) (h.Lx m hi) (h.Fx m hi)⟩
theorem gnil : BGs C [] [] nilG := ⟨_, dgs_nil, fun X h => pgs_nil⟩
theorem gcons {js ks : List Nat} {g : D → Nv → Option Nv} {gs : List D → Nv → Option Nv} (h1 : BG C js e g) (h2 : BGs C ks es gs)
    (hs : ∀ X : Cx, (assignEach (e :: es) X.env).map (·.2) = assign e X.env :: (assignEach es X.env).map (·.2) := by intro _; rfl) : BGs C (js ++ ks) (e :: es) (consG g gs) := by
  obtain ⟨t, t1, t2⟩ := h1
  obtain ⟨u, u1, u2⟩ := h2
  exact ⟨_, dgs_cons t1 u1, fun X h => pgs_cons (t2 X h) (u2 X h) (hs X)⟩
theorem gtup {js : List Nat} {gs : List D → Nv → Option Nv} {k n : Nat} (h : BGs C js es gs)
    (hn : ∀ X : Cx, (assignEach es X.env).length = n := by intro _; rfl) (hst : ∀ X : Cx, (assignEach es X.env).findIdx? (·.1) = none := by intro _; rfl) : BG C js (.Tuple es k pos) (tupG n gs) := by
  obtain ⟨t, t1, t2⟩ := h
  exact ⟨_, dg_tup (n := n) t1, fun X h => by rw [h.K]; exact pg_tup h.calm (t2 X h) (hn X) (hst X)⟩
/-! ### iterators -/
variable {tg : Expr}
theorem iL (ha : BE C a fa) : BI C tg a (itL fa) := by
  obtain ⟨ta, a1, a2⟩ := ha
  exact ⟨_, di_list a1, fun X h => by rw [h.K]; exact pi_list (a2 X h)⟩
theorem iT (ha : BE C a fa) : BI C tg a (itT fa) := by
  obtain ⟨ta, a1, a2⟩ := ha
  exact ⟨_, di_tup a1, fun X h => by rw [h.K]; exact pi_tup (a2 X h)⟩
theorem iR1 (j : Nat) (hj : C.gs[j]? = some "range") (ha : BA C [a] fs) (hs : ∀ X : Cx, starEach [a] X.env = [(false, eval a X.env)] := by intro _; rfl) : BI C tg (.Call (.Name "range" p) [a] [] pos) (itR1 fs) := by
  obtain ⟨ta, a1, a2⟩ := ha
  exact ⟨_, di_rg1 a1, fun X h => pi_range1 (h.Gl hj) (h.mgN (by decide)) (a2 X h) (hs X)⟩
theorem iR2 (j : Nat) (hj : C.gs[j]? = some "range") (ha : BA C [a, b] fs) (hs : ∀ X : Cx, starEach [a, b] X.env = [(false, eval a X.env), (false, eval b X.env)] := by intro _; rfl) (hs2 : ∀ X : Cx, starEach [b] X.env = [(false, eval b X.env)] := by intro _; rfl) : BI C tg (.Call (.Name "range" p) [a, b] [] pos) (itR2 fs) := by
  obtain ⟨ta, a1, a2⟩ := ha
  exact ⟨_, di_rg2 a1, fun X h => pi_range2 (h.Gl hj) (h.mgN (by decide)) (a2 X h) (hs X) (hs2 X)⟩
/-! ### ranges as lists, tuples -/
theorem r1 (j : Nat) (hj : C.gs[j]? = some "range") (ha : BE C a fa) (na : ∀ X : Cx, starEach [a] X.env = (false, eval a X.env) :: starEach [] X.env := by intro _; rfl) : BR C (.Call (.Name "range" p) [a] [] pos) (rg1 fa) := by
  obtain ⟨ta, a1, a2⟩ := ha
  exact ⟨_, dr_1 a1, fun X h => prg_1 (h.Gl hj) (h.mgN (by decide)) (a2 X h) (na X)⟩
theorem nlstRg {f : Nv → Option (Int × Int)} (j : Nat) (hj : C.gs[j]? = some "list") (ha : BR C a f) (na : ∀ X : Cx, starEach [a] X.env = (false, eval a X.env) :: starEach [] X.env := by intro _; rfl) : BN C (.Call (.Name "list" p) [a] [] pos) (lstRg f) := by
  obtain ⟨ta, a1, a2⟩ := ha
  exact ⟨_, dn_lstRg a1, fun X h => pe_listRg h.calm (h.Gl hj) (h.mgN (by decide)) (a2 X h) (na X)⟩
def tupRgV (f : Nv → Option (Int × Int)) (ρ : Nv) : Option D := (lstRg f ρ).map PyData.tuple
theorem btupRg {f : Nv → Option (Int × Int)} (j : Nat) (hj : C.gs[j]? = some "tuple") (ha : BR C a f) (na : ∀ X : Cx, starEach [a] X.env = (false, eval a X.env) :: starEach [] X.env := by intro _; rfl) : BE C (.Call (.Name "tuple" p) [a] [] pos) (tupRgV f) := by
  obtain ⟨ta, a1, a2⟩ := ha
  exact ⟨_, de_tupRg a1, fun X h => pe_tupRg h.calm (h.Gl hj) (h.mgN (by decide)) (a2 X h) (na X)⟩
/-! ### other built-ins -/
theorem bisi {T : Str} {T' : String} {p2 : Pos} (j : Nat) (hj : C.gs[j]? = some "isinstance") (j2 : Nat) (hj2 : C.gs[j2]? = some T) (ha : BE C a fa) (hb : T ∈ blts) (hv : bootBuiltins T = some (.type T')) (hn : T ≠ "__name__")
    (h1 : ∀ X : Cx, starEach (a :: [.Name T p2]) X.env = (false, eval a X.env) :: starEach [.Name T p2] X.env := by intro _; rfl) (h2 : ∀ X : Cx, starEach ([.Name T p2] : List Expr) X.env = (false, eval (.Name T p2) X.env) :: starEach [] X.env := by intro _; rfl)
    (hpl : ∀ X : Cx, (backTo pos (starEach [.Name T p2] X.env)).any (·.1) = false := by intro _; rfl) : BE C (.Call (.Name "isinstance" p) [a, .Name T p2] [] pos) (b1 fa (oIsi T')) := by
  obtain ⟨ta, a1, a2⟩ := ha
  exact ⟨_, de_isi a1, fun X h => by
    rw [h.K]
    exact pe_callB call_isi (h.Gl hj) (h.mgN (by decide)) rfl (pa_cons (a2 X h) (pa_cons (pe_bltn (h.Gl hj2) (h.mgN hb) hv rfl hn (h.gl j2 T hj2).2) pa_nil (h2 X)) (h1 X)) (by decide) (h.gl j _ hj).2 (h1 X) (hpl X)⟩
theorem bmaxD {d : Int} {q : Nat} {cp kp : Pos} (j : Nat) (hj : C.gs[j]? = some "max") (ha : BA C [a] fs)
    (he : ∀ X : Cx, backTo pos (starEach [a] X.env) = (false, eval a X.env) :: backTo pos (starEach [] X.env) := by intro _; rfl) (hpl : ∀ X : Cx, (backTo pos (starEach [a] X.env)).any (·.1) = false := by intro _; rfl) : BE C (.Call (.Name "max" p) [a] [⟨some "default", .Constant (.int d) q cp, kp⟩] pos) (maxDfV fs d) := by
  obtain ⟨ta, a1, a2⟩ := ha
  exact ⟨_, de_maxDf a1, fun X h => by rw [h.K]; exact pe_callBK (call_maxDf h.calm (by have := h.un; omega)) (h.Gl hj) (h.mgN (by decide)) boot_max (a2 X h) (pk_cons pe_int pk_nil) (by decide) (h.gl j _ hj).2 (he X) (hpl X)⟩
theorem blenSet {p2 q : Pos} (j : Nat) (hj : C.gs[j]? = some "len") (j2 : Nat) (hj2 : C.gs[j2]? = some "set") (ha : BE C a fa)
    (na : ∀ X : Cx, starEach [a] X.env = (false, eval a X.env) :: starEach [] X.env := by intro _; rfl) : BE C (.Call (.Name "len" p) [.Call (.Name "set" p2) [a] [] q] [] pos) (lenSetV fa) := by
  obtain ⟨ta, a1, a2⟩ := ha
  exact ⟨_, de_lenSetT a1, fun X h => by rw [h.K]; exact pe_lenSetT (h.Gl hj) (h.mgN (by decide)) (h.Gl hj2) (h.mgN (by decide)) (a2 X h) h.calm (na X)⟩
/-- a text in a module's tuple of texts -/
theorem bInG {neg : Bool} {op : CmpOp} {xs : List Str} {p2 : Pos} (hop : ∀ X : Cx, OpR X (compareOp op) (rIn X.K neg)) (j : Nat) (hj : C.gs[j]? = some y) (hm : ∃ d, C.W.mg y = some (.ref d) ∧ ∀ H, SqT C.W.K H d (xs.map V.str)) (ha : BE C a fa)
    (hmk : behindInMarks op (.Name y p2) = false := by with_unfolding_all rfl) : BE C (.Compare a [op] [.Name y p2] pos) (inG neg fa xs) := by
  obtain ⟨ta, a1, a2⟩ := ha
  obtain ⟨d, m1, m2⟩ := hm
  exact ⟨_, de_inG m2 a1, fun X h => by
    rw [h.mgE] at m1
    rw [h.K]
    exact pe_cmpR (hop X) (a2 X h) (pe_glob (h.Gl hj) m1 rfl (h.gl j y hj).2) hmk⟩
/-! ### dicts, own things read -/
theorem bdget (ha : BE C a fa) (hb : BE C b fb) (hs : NoSl b := by intro _ _; rfl) : BE C (.Subscript a b pos) (b2 fa fb oDget) := by
  obtain ⟨ta, a1, a2⟩ := ha
  obtain ⟨tb', b1', b2'⟩ := hb
  exact ⟨_, de_dget a1 b1', fun X h => pe_dget (by have := h.un; omega) (a2 X h) (b2' X h) hs⟩
theorem bdin (ha : BE C a fa) (hb : BE C b fb) (hm : behindInMarks .In b = false := by with_unfolding_all rfl) : BE C (.Compare a [.In] [b] pos) (b2 fa fb (oDin false)) := by
  obtain ⟨ta, a1, a2⟩ := ha
  obtain ⟨tb', b1', b2'⟩ := hb
  exact ⟨_, de_din a1 b1', fun X h => pe_cmp (pc_din (by have := h.un; omega) (a2 X h) (b2' X h)) hm⟩
theorem bdnin (ha : BE C a fa) (hb : BE C b fb) (hm : behindInMarks .NotIn b = false := by with_unfolding_all rfl) : BE C (.Compare a [.NotIn] [b] pos) (b2 fa fb (oDin true)) := by
  obtain ⟨ta, a1, a2⟩ := ha
  obtain ⟨tb', b1', b2'⟩ := hb
  exact ⟨_, de_dnotin a1 b1', fun X h => pe_cmp (pc_dnotin (by have := h.un; omega) (a2 X h) (b2' X h)) hm⟩
theorem tdin (ha : BE C a fa) (hb : BE C b fb) (hm : behindInMarks .In b = false := by with_unfolding_all rfl) : BT C (.Compare a [.In] [b] pos) (tb (b2 fa fb (oDin false))) := by
  obtain ⟨ta, a1, a2⟩ := ha
  obtain ⟨tb', b1', b2'⟩ := hb
  exact ⟨_, dt_B (de_din a1 b1'), fun X h => pt_cmp (pc_din (by have := h.un; omega) (a2 X h) (b2' X h)) hm⟩
theorem tdnin (ha : BE C a fa) (hb : BE C b fb) (hm : behindInMarks .NotIn b = false := by with_unfolding_all rfl) : BT C (.Compare a [.NotIn] [b] pos) (tb (b2 fa fb (oDin true))) := by
  obtain ⟨ta, a1, a2⟩ := ha
  obtain ⟨tb', b1', b2'⟩ := hb
  exact ⟨_, dt_B (de_dnotin a1 b1'), fun X h => pt_cmp (pc_dnotin (by have := h.un; omega) (a2 X h) (b2' X h)) hm⟩
section
variable (i : Nat) (hi : C.N[i]? = some x) (m : i ∈ C.L)
include hi m
theorem GoodX.pv {X : Cx} (h : GoodX C X) : PE X (.Name x p) (tVar i) := pe_var (h.Nx hi) (h.Vx m hi) (h.vis i m x hi).2.1 (h.vis i m x hi).2.2
theorem oLenO {p2 : Pos} (j : Nat) (hj : C.gs[j]? = some "len") (he : ∀ X : Cx, starEach ([.Name x p] : List Expr) X.env = (false, eval (.Name x p) X.env) :: starEach [] X.env := by intro _; rfl) (hpl : ∀ X : Cx, (backTo pos (starEach [] X.env)).any (·.1) = false := by intro _; rfl) : BE C (.Call (.Name "len" p2) [.Name x p] [] pos) (lenO i) :=
  ⟨_, de_lenO i, fun X h => by rw [h.K]; exact pe_callB call_len_seq (h.Gl hj) (h.mgN (by decide)) rfl (pa_cons (h.pv i hi m) pa_nil (he X)) (by decide) (h.gl j _ hj).2 (he X) (hpl X)⟩
theorem oIxO (hb : BE C b fb) (hs : PlainIx b := by intro _ _; rfl) : BE C (.Subscript (.Name x p) b pos) (ixO i fb) := by
  obtain ⟨tb', b1', b2'⟩ := hb
  exact ⟨_, de_ixO i b1', fun X h => by rw [h.K]; exact pe_ix ix_seq (h.pv i hi m) (b2' X h) hs⟩
theorem oInO (ha : BE C a fa) (hm : behindInMarks .In (.Name x p) = false := by with_unfolding_all rfl) : BE C (.Compare a [.In] [.Name x p] pos) (inO false fa i) := by
  obtain ⟨ta, a1, a2⟩ := ha
  exact ⟨_, de_inO i a1, fun X h => by rw [h.K]; exact pe_cmpR op_in_seq (a2 X h) (h.pv i hi m) hm⟩
theorem oNinO (ha : BE C a fa) (hm : behindInMarks .NotIn (.Name x p) = false := by with_unfolding_all rfl) : BE C (.Compare a [.NotIn] [.Name x p] pos) (inO true fa i) := by
  obtain ⟨ta, a1, a2⟩ := ha
  exact ⟨_, de_inO i a1, fun X h => by rw [h.K]; exact pe_cmpR op_notIn_seq (a2 X h) (h.pv i hi m) hm⟩
theorem tNinO (ha : BE C a fa) (hm : behindInMarks .NotIn (.Name x p) = false := by with_unfolding_all rfl) : BT C (.Compare a [.NotIn] [.Name x p] pos) (tb (inO true fa i)) := by
  obtain ⟨ta, a1, a2⟩ := ha
  exact ⟨_, dt_test (de_inO i a1), fun X h => by rw [h.K]; exact pt_cmpR op_notIn_seq (a2 X h) (h.pv i hi m) hm⟩
theorem tNeO (ha : BE C a fa) : BT C (.Compare (.Name x p) [.NotEq] [a] pos) (tb (eqO true i fa)) := by
  obtain ⟨ta, a1, a2⟩ := ha
  exact ⟨_, dt_test (de_neO i a1), fun X h => by rw [h.K]; exact pt_cmpR (op_neD (by have := h.un; omega)) (h.pv i hi m) (a2 X h) (nomark _)⟩
theorem tdinO (ha : BE C a fa) (hm : behindInMarks .In (.Name x p) = false := by with_unfolding_all rfl) : BT C (.Compare a [.In] [.Name x p] pos) (tb (dinO false fa i)) := by
  obtain ⟨ta, a1, a2⟩ := ha
  exact ⟨_, dt_B (de_dinO i a1), fun X h => pt_cmp (pc_din (by have := h.un; omega) (a2 X h) (h.pv i hi m)) hm⟩
theorem tdninO (ha : BE C a fa) (hm : behindInMarks .NotIn (.Name x p) = false := by with_unfolding_all rfl) : BT C (.Compare a [.NotIn] [.Name x p] pos) (tb (dinO true fa i)) := by
  obtain ⟨ta, a1, a2⟩ := ha
  exact ⟨_, dt_B (de_dnotinO i a1), fun X h => pt_cmp (pc_dnotin (by have := h.un; omega) (a2 X h) (h.pv i hi m)) hm⟩
end
end
end Qd
end
section
set_option Elab.async false
set_option linter.all false
set_option autoImplicit false
set_option maxRecDepth 100000
set_option maxHeartbeats 2000000
/-! Q11: comprehensions, calls of defs, statements, a def made. -/
namespace Qd
open PySem
open PySem.Spec
open PyProof.Rows
open L2
open LamX (ExtN Tabs TabS)

/-! ### the context of a comprehension -/
def notOdd (x : Str) : Bool := !(x == ("__debug__" : Str)) && !(x == ("__classdict__" : Str))
def visB (sc : Scope) (x : Str) : Bool := match sc.names.lookup x with
  | some .local => true
  | some .cell => true
  | some .free => true
  | _ => false
def locB (sc : Scope) (x : Str) : Bool := match sc.names.lookup x with
  | some .local => true
  | some .cell => true
  | _ => false
def glB (sc : Scope) (x : Str) : Bool := match sc.names.lookup x with
  | some .globalImplicit => true
  | _ => false
def fnB (sc0 sc : Scope) (x : Str) : Bool := (sc0.names.lookup x == some NameKind.cell) || decide (sc.names.lookup x = some NameKind.local)
def ckB (N : List Str) (sc0 sc : Scope) (L M : List Nat) (gs : List Str) : Bool :=
  (L.all fun i => match N[i]? with | some x => visB sc x && notOdd x | none => true) && (M.all fun i => match N[i]? with | some x => locB sc x && fnB sc0 sc x | none => true) && gs.all fun x => glB sc x && notOdd x
def relS (sc psc : Scope) : Scope := { sc with names := sc.names.map fun (n, k) => if (k == NameKind.free && psc.kind == ScopeKind.function && psc.names.lookup n == some NameKind.cell) then (n, NameKind.cell) else (n, k) }
theorem relS_eq (sc : Scope) (env : PySem.Env) : relabel sc env = relS sc env.scope := rfl
theorem notOdd_ok {x : Str} (h : notOdd x = true) : (x == ("__debug__" : Str)) = false ∧ (x == ("__classdict__" : Str)) = false := by
  unfold notOdd at h
  rw [Bool.and_eq_true] at h
  exact ⟨by simpa using h.1, by simpa using h.2⟩
theorem visB_ok {sc : Scope} {x : Str} (h : visB sc x = true) : Vis sc x := by
  unfold visB at h
  unfold Vis
  split at h
  · rename_i e; exact .inl e
  · rename_i e; exact .inr (.inl e)
  · rename_i e; exact .inr (.inr e)
  · cases h
theorem locB_ok {sc : Scope} {x : Str} (h : locB sc x = true) : L2.Loc sc x := by
  unfold locB at h
  unfold L2.Loc
  split at h
  · rename_i e; exact .inl e
  · rename_i e; exact .inr e
  · cases h
theorem glB_ok {sc : Scope} {x : Str} (h : glB sc x = true) : sc.names.lookup x = some .globalImplicit := by
  unfold glB at h
  split at h
  · rename_i e; exact e
  · cases h
theorem ckB_ok {N : List Str} {sc0 sc : Scope} {L M : List Nat} {gs : List Str} (h : ckB N sc0 sc L M gs = true) :
    (∀ i ∈ L, ∀ x : Str, N[i]? = some x → Vis sc x ∧ (x == ("__debug__" : Str)) = false ∧ (x == ("__classdict__" : Str)) = false) ∧ (∀ i ∈ M, ∀ x : Str, N[i]? = some x → L2.Loc sc x ∧ fnB sc0 sc x = true) ∧
    ∀ (j : Nat) (x : Str), gs[j]? = some x → sc.names.lookup x = some .globalImplicit ∧ (x == ("__debug__" : Str)) = false := by
  unfold ckB at h
  rw [Bool.and_eq_true, Bool.and_eq_true, List.all_eq_true, List.all_eq_true, List.all_eq_true] at h
  obtain ⟨⟨h1, h2⟩, h3⟩ := h
  refine ⟨fun i hi x e => ?_, fun i hi x e => ?_, fun j x e => ?_⟩
  · have q := h1 i hi
    rw [e] at q
    have q : (visB sc x && notOdd x) = true := q
    rw [Bool.and_eq_true] at q
    exact ⟨visB_ok q.1, notOdd_ok q.2⟩
  · have q := h2 i hi
    rw [e] at q
    have q : (locB sc x && fnB sc0 sc x) = true := q
    rw [Bool.and_eq_true] at q
    exact ⟨locB_ok q.1, q.2⟩
  · have q := h3 x (List.mem_of_getElem? e)
    rw [Bool.and_eq_true] at q
    exact ⟨glB_ok q.1, (notOdd_ok q.2).1⟩
def Ct.blk (C : Ct) (sc : Scope) (L M : List Nat) (gs : List Str) : Ct := ⟨C.W, C.k, relS sc C.sc, C.N, L, M, gs, none⟩
theorem good_blk {C : Ct} {X : Cx} {sc : Scope} {L M : List Nat} {gs : List Str} (h : GoodX C X) (ck : ckB C.N sc (relS sc C.sc) L M gs = true) (s : Shared) (H : Hp) (A : Addr) (cl : List (Str × Addr)) (fp : List Addr) : GoodX (C.blk sc L M gs) (X.blk s H sc (compEnvC sc cl A X.env) fp) := by
  obtain ⟨c1, c2, c3⟩ := ckB_ok ck
  refine ⟨?_, h.hN, h.nd, h.room, h.calm, PassesOwn.never, ?_, c1, fun i hi x e => ⟨(c2 i hi x e).1, ?_⟩, c3, h.bn, fun _ _ _ z => by cases z⟩
  · obtain ⟨T, kf, e⟩ := h.w
    exact ⟨T, kf, e⟩
  · show relabel sc X.env = relS sc C.sc
    rw [relS_eq, h.hsc]
  · have q := (c2 i hi x e).2
    unfold fnB at q
    rw [Bool.or_eq_true, decide_eq_true_eq] at q
    exact q
def BTs (C : Ct) (es : List Expr) (f : Nv → Option Bool) : Prop := ∃ t, DT C.W t f ∧ ∀ X, GoodX C X → PTs X es t
section
variable {C : Ct} {a b c e : Expr} {fa fb fc fe : Nv → Option D} {ft : Nv → Option Bool} {pos : Pos} {es : List Expr} {fs fn : Nv → Option (List D)} {x y : Str} {p : Pos}
theorem tsnil : BTs C [] yesT := ⟨_, dt_yes, fun X h => pts_nil⟩
theorem tsone (h : BT C a ft) : BTs C [a] ft := by
  obtain ⟨t, t1, t2⟩ := h
  exact ⟨_, t1, fun X h => pts_one (t2 X h)⟩
/-- a list's making and its store into a name, on one line -/
def BAs (C : Ct) (i : Nat) (st : Stmt) (f : Nv → Option (List D)) : Prop := ∃ t, DN C.W t f ∧ ∀ X, GoodX C X → PS X st (tAsg t (gName i))
section
variable {elt tg iter : Expr} {ifs : List Expr} {scope : Scope} {js : List Nat} {fi : Nv → Option (List D)} {g : D → Nv → Option Nv} {spos : Pos}
theorem nlc (own : List (Str × Nat)) (L M : List Nat) (gs : List Str) (hi : BI C tg iter fi) (ok : blkC C.N C.sc scope own = true) (ck : ckB C.N scope (relS scope C.sc) L M gs = true) (hg : BG (C.blk scope L M gs) js tg g) (ht : BTs (C.blk scope L M gs) ifs ft) (he : BE (C.blk scope L M gs) elt fe)
    (hjs : ∀ j ∈ js, j ∈ own.map (·.2)) (hs : ∀ (X : Cx) x, foldedSetIterable iter X.env x = pure x := by intro _ _; rfl) : BN C (.ListComp elt [⟨tg, iter, ifs, 0⟩] scope pos) (lcV fi g ft fe (own.map (·.2))) := by
  obtain ⟨wi, i1, i2⟩ := hi
  obtain ⟨tg', g1, g2⟩ := hg
  obtain ⟨tt, t1, t2⟩ := ht
  obtain ⟨te, e1, e2⟩ := he
  exact ⟨_, dn_lc i1 g1 hjs t1 e1, fun X h => pe_lc h.calm h.ndX (i2 X h) (by rw [h.hN, h.hsc]; exact blkOk_by ok) (fun s H A cl fp => g2 _ (good_blk h ck s H A cl fp)) (fun s H A cl fp => t2 _ (good_blk h ck s H A cl fp))
    (fun s H A cl fp => e2 _ (good_blk h ck s H A cl fp)) (hs X)⟩
theorem swaps_yes {X : Cx} {gens : List Comprehension} (hk : (X.env.scope.kind == ScopeKind.function) = true) (hl : X.env.scope.names.lookup y = some .local) (h : ((p.line == pos.line) && !(scope.names.any fun (n, k) => n == y && (k == NameKind.local || k == NameKind.cell))) = true) :
    swapsWith (.ListComp elt gens scope pos) (some (.Name y p)) spos.line X.env = pure true := by
  rw [Bool.and_eq_true] at h
  have k1 : X.env.scope.kind = .function := by simpa using hk
  have k2 : X.env.blockKind = .function := by
    unfold Env.blockKind
    rw [k1]
    rfl
  unfold swapsWith
  show ((do let c ← (pure scope : Sem Scope); return X.env.blockKind == ScopeKind.function && X.env.kindOf y == some NameKind.local && p.line == pos.line && !(c.names.any fun (n, k) => n == y && (k == NameKind.local || k == NameKind.cell))) : Sem Bool) = _
  have k3 : X.env.kindOf y = some .local := hl
  rw [k2, k3]
  show (pure _ : Sem Bool) = _
  rw [show (ScopeKind.function == ScopeKind.function) = true from rfl, show ((some NameKind.local) == (some NameKind.local)) = true from rfl, h.1, Bool.true_and, Bool.true_and, h.2]
  rfl
theorem aLc (i : Nat) (own : List (Str × Nat)) (L M : List Nat) (gs : List Str) (hy : C.N[i]? = some y) (hk : (C.sc.kind == ScopeKind.function) = true) (hl : C.sc.names.lookup y = some .local) (hsw : ((p.line == pos.line) && !(scope.names.any fun (n, k) => n == y && (k == NameKind.local || k == NameKind.cell))) = true)
    (hi : BI C tg iter fi) (ok : blkC C.N C.sc scope own = true) (ck : ckB C.N scope (relS scope C.sc) L M gs = true) (hg : BG (C.blk scope L M gs) js tg g) (ht : BTs (C.blk scope L M gs) ifs ft) (he : BE (C.blk scope L M gs) elt fe)
    (hjs : ∀ j ∈ js, j ∈ own.map (·.2)) (hs : ∀ (X : Cx) x, foldedSetIterable iter X.env x = pure x := by intro _ _; rfl) : BAs C i (.Assign [.Name y p] (.ListComp elt [⟨tg, iter, ifs, 0⟩] scope pos) spos) (lcV fi g ft fe (own.map (·.2))) := by
  obtain ⟨wi, i1, i2⟩ := hi
  obtain ⟨tg', g1, g2⟩ := hg
  obtain ⟨tt, t1, t2⟩ := ht
  obtain ⟨te, e1, e2⟩ := he
  exact ⟨_, dn_lc i1 g1 hjs t1 e1, fun X h => ps_setLc h.calm h.ndX (h.Nx hy) (by rw [h.hsc]; exact hl) (swaps_yes (by rw [h.hsc]; exact hk) (by rw [h.hsc]; exact hl) hsw) (i2 X h) (by rw [h.hN, h.hsc]; exact blkOk_by ok)
    (fun s H A cl fp => g2 _ (good_blk h ck s H A cl fp)) (fun s H A cl fp => t2 _ (good_blk h ck s H A cl fp)) (fun s H A cl fp => e2 _ (good_blk h ck s H A cl fp)) (hs X)⟩
theorem swaps_no {X : Cx} {gens : List Comprehension} (hl : X.env.scope.names.lookup y = some .cell) : swapsWith (.ListComp elt gens scope pos) (some (.Name y p)) spos.line X.env = pure false := by
  unfold swapsWith
  show ((do let c ← (pure scope : Sem Scope); return X.env.blockKind == ScopeKind.function && X.env.kindOf y == some NameKind.local && p.line == pos.line && !(c.names.any fun (n, k) => n == y && (k == NameKind.local || k == NameKind.cell))) : Sem Bool) = _
  have k3 : X.env.kindOf y = some .cell := hl
  rw [k3]
  show (pure _ : Sem Bool) = _
  rw [show ((some NameKind.cell) == (some NameKind.local)) = false from rfl, Bool.and_false, Bool.false_and, Bool.false_and]
/-- the name is a cell -/
theorem aLcC (i : Nat) {gens : List Comprehension} (hy : C.N[i]? = some y) (m : i ∈ C.M) (hl : C.sc.names.lookup y = some .cell) (hn : BN C (.ListComp elt gens scope pos) fn) : BAs C i (.Assign [.Name y p] (.ListComp elt gens scope pos) spos) fn := by
  obtain ⟨t, t1, t2⟩ := hn
  exact ⟨_, t1, fun X h => ps_set h.ndX (h.Nx hy) (h.Lx m hy) (t2 X h) (swaps_no (by rw [h.hsc]; exact hl)) (h.Fx m hy)⟩
end
/-- any other list -/
theorem aN (i : Nat) (hy : C.N[i]? = some y) (m : i ∈ C.M) (hn : BN C e fn) (hs : ∀ X : Cx, swapsWith e (some (.Name y p)) pos.line X.env = pure false := by intro _; rfl) : BAs C i (.Assign [.Name y p] e pos) fn := by
  obtain ⟨t, t1, t2⟩ := hn
  exact ⟨_, t1, fun X h => ps_set h.ndX (h.Nx hy) (h.Lx m hy) (t2 X h) (hs X) (h.Fx m hy)⟩
/-! ### calls of defs -/
theorem de_call' {W : Wd} {n : Nat} {F : List D → Option D} {E : XK} {tr : TA} {g : Nv → Option (List D)} (h : DA W tr g) (hF : ∀ ds d, F ds = some d → ds.length = n) : DE W (tCall (SpF W n F) [] E tr) (c1 g F) := by
  intro H0 HF0 σ H HF ρ d Q R e q
  obtain ⟨ds, e1, e2⟩ := Option.bind_eq_some_iff.mp e
  refine (de_call (n := n) (F := F) (g := fun ρ => (g ρ).bind fun ds => if ds.length = n then some ds else none) (fun H0 HF0 σ H HF ρ ds Q R e q => ?_) fun ρ ds e => ?_) H0 HF0 σ H HF ρ d Q R ?_ q
  · obtain ⟨ds', h1, h2⟩ := Option.bind_eq_some_iff.mp e
    split at h2
    · cases h2
      exact h H0 HF0 σ H HF ρ _ Q R h1 q
    · cases h2
  · obtain ⟨ds', h1, h2⟩ := Option.bind_eq_some_iff.mp e
    split at h2
    · rename_i hl
      cases h2
      exact hl
    · cases h2
  · unfold c1
    show Option.bind (Option.bind (g ρ) _) F = some d
    rw [e1]
    show Option.bind (if ds.length = n then some ds else none) F = some d
    rw [if_pos (hF ds d e2)]
    exact e2
theorem runS_len {n N : Nat} {g : Gs} (ds : List D) (d : D) (h : runS n N g ds = some d) : ds.length = n := by
  unfold runS at h
  split at h
  · rename_i hl
    exact hl
  · cases h
theorem bcall {k n : Nat} {F : List D → Option D} (j : Nat) (d : Df C.W k x n F) (hF : ∀ ds d, F ds = some d → ds.length = n) (hk : k ≤ C.k) (hj : C.gs[j]? = some x) (ha : BA C (a :: es) fs)
    (he : ∀ X : Cx, starEach (a :: es) X.env = (false, eval a X.env) :: starEach es X.env := by intro _; rfl) (hpl : ∀ X : Cx, (backTo pos (starEach es X.env)).any (·.1) = false := by intro _; rfl) : BE C (.Call (.Name x p) (a :: es) [] pos) (c1 fs F) := by
  obtain ⟨ts, s1, s2⟩ := ha
  refine ⟨_, de_call' (E := E0) s1 hF, fun X h => ?_⟩
  obtain ⟨T, kf, e⟩ := h.w
  rw [e]
  rw [e] at d
  exact pe_df (d.mono hk) h.room (h.Gl hj) (s2 X h) (h.gl j x hj).2 (he X) (hpl X)
def BAb (C : Ct) (es : List Expr) (f : Nv → Option (List D)) : Prop := ∃ t, DAb C.W t f ∧ ∀ X, GoodX C X → PA X es t
theorem abodi (i : Nat) (hi : C.N[i]? = some x) (m : i ∈ C.L) (hst : ∀ X : Cx, starEach ([.Name x p] : List Expr) X.env = (false, eval (.Name x p) X.env) :: starEach [] X.env := by intro _; rfl) : BAb C [.Name x p] (odiA i) :=
  ⟨_, dab_odi i, fun X h => pa_cons (h.pv i hi m) pa_nil (hst X)⟩
theorem abcons (ha : BE C a fa) (hs : BAb C es fs) (hst : ∀ X : Cx, starEach (a :: es) X.env = (false, eval a X.env) :: starEach es X.env := by intro _; rfl) : BAb C (a :: es) (consA fa fs) := by
  obtain ⟨ta, a1, a2⟩ := ha
  obtain ⟨ts, s1, s2⟩ := hs
  exact ⟨_, dab_cons a1 s1, fun X h => pa_cons (a2 X h) (s2 X h) (hst X)⟩
theorem bcallB {k n : Nat} {F : List D → Option D} (j : Nat) (d : Df C.W k x n F) (hn : ∀ ρ ds, fs ρ = some ds → ds.length = n) (hk : k ≤ C.k) (hj : C.gs[j]? = some x) (ha : BAb C (a :: es) fs)
    (he : ∀ X : Cx, starEach (a :: es) X.env = (false, eval a X.env) :: starEach es X.env := by intro _; rfl) (hpl : ∀ X : Cx, (backTo pos (starEach es X.env)).any (·.1) = false := by intro _; rfl) : BE C (.Call (.Name x p) (a :: es) [] pos) (c1b fs F) := by
  obtain ⟨ts, s1, s2⟩ := ha
  refine ⟨_, de_callB (E := E0) s1 hn, fun X h => ?_⟩
  obtain ⟨T, kf, e⟩ := h.w
  rw [e]
  rw [e] at d
  exact pe_df (d.mono hk) h.room (h.Gl hj) (s2 X h) (h.gl j x hj).2 (he X) (hpl X)
/-! ### [..] * n -/
def repL (f : Nv → Option (List D)) (g : Nv → Option D) (ρ : Nv) : Option (List D) := (f ρ).bind fun xs => ((g ρ).bind iD).bind fun k => if 0 ≤ k ∧ k ≤ 1000 ∧ xs.length ≤ 100 then some (List.replicate k.toNat xs).flatten else none
theorem nrep (hn : BN C a fn) (hb : BE C b fb) : BN C (.BinOp a .Mult b pos) (repL fn fb) := by
  obtain ⟨t, t1, t2⟩ := hn
  obtain ⟨u, u1, u2⟩ := hb
  refine ⟨tOp rRepR t u, fun H0 HF0 σ H HF ρ out Q R e q => ?_, fun X h => pe_op op_repR (t2 X h) (u2 X h)⟩
  obtain ⟨xs, e1, e2⟩ := Option.bind_eq_some_iff.mp e
  obtain ⟨k, e3, e4⟩ := Option.bind_eq_some_iff.mp e2
  obtain ⟨d, e5, e6⟩ := Option.bind_eq_some_iff.mp e3
  cases iD_some e6
  by_cases hk : 0 ≤ k ∧ k ≤ 1000 ∧ xs.length ≤ 100
  · rw [if_pos hk] at e4
    cases e4
    refine t1 H0 HF0 σ H HF ρ xs _ R e1 fun p vs H1 HF1 f1 hp hF hH r1 => ?_
    refine u1 H0 HF0 σ H1 HF1 ρ _ _ (R.grow f1) e5 fun v H2 HF2 f2 r2 => ?_
    obtain ⟨k1, k2⟩ := f2.keepsD hH hF
    have r3 := r1.mono f2.fro
    have hl := r3.length
    cases r2.int_inv
    refine ⟨p, k, vs, rfl, rfl, k1, by omega, by omega, ?_, fun z hz => ?_⟩
    · have : k.toNat ≤ 1000 := by omega
      have h1 : vs.length * k.toNat ≤ 100 * 1000 := Nat.mul_le_mul (by omega) this
      exact Nat.le_trans h1 (by decide)
    · have f3 := (f1.trans f2).trans (Fz.laidO (o := .lst (List.replicate k.toNat vs).flatten) f2.sub f2.tab f2.nt hz)
      exact q z _ _ HF2 f3 ((f1.trans f2).dom z hz) (Same.free f2.sub hz) upd_same (r3.rep _)
  · rw [if_neg hk] at e4
    cases e4
end
end Qd
end
section
set_option Elab.async false
set_option linter.all false
set_option autoImplicit false
set_option maxRecDepth 100000
set_option maxHeartbeats 2000000
/-! Q12: statements; a def made from the walk of its body. -/
namespace Qd
open PySem
open PySem.Spec
open PyProof.Rows
open L2
open LamX (ExtN Tabs TabS)

def exprS (f : Nv → Option D) (ρ : Nv) : Option Out := (f ρ).map fun _ => .nx ρ
theorem ds_expr {W : Wd} {te : TE} {fe : Nv → Option D} (h : DE W te fe) : DS W (tDrop te) (exprS fe) := by
  intro H0 HF0 σ H HF ρ o Dn R e p
  obtain ⟨d, e1, rfl⟩ := Option.map_eq_some_iff.mp e
  exact h H0 HF0 σ H HF ρ d _ R e1 fun v H1 HF1 f1 r1 => p σ H1 HF1 (R.grow f1) f1.fro
theorem swapped2 {env : PySem.Env} {x y : Str} {px py pt pt2 : Pos} {a b : Expr} {kt k2 : Nat} (hk : env.scope.kind = ScopeKind.function) (hx : env.scope.names.lookup x = some NameKind.local) (hy : env.scope.names.lookup y = some NameKind.local) (hl : (py.line == px.line) = true) (hxy : ([x, y].eraseDups.length == 2) = true)
    (hst : ([a, b].any fun | .Starred .. => true | _ => false) = false) (hf : [a, b].all (foldedForSure 8) = false) (hc : [a, b].all (constantsAlone 8) = false) :
    swappedStores [.Tuple [.Name x px, .Name y py] kt pt] (.Tuple [a, b] k2 pt2) env = pure (some [x, y]) := by
  have k2 : env.blockKind = ScopeKind.function := by
    unfold Env.blockKind
    rw [hk]
    rfl
  have kx : env.kindOf x = some NameKind.local := hx
  have ky : env.kindOf y = some NameKind.local := hy
  unfold swappedStores
  have l1 : (px.line == px.line) = true := by simp
  have hxy : [x, y].eraseDups.length = 2 := by simpa using hxy
  have l2 : (some NameKind.local == some NameKind.local) = true := rfl
  simp only [List.length_cons, List.length_nil, k2, hf, hc, List.filterMap_cons, List.filterMap_nil, kx, ky, List.head?_cons, Option.map_some, Option.getD_some, Expr.pos, l1, hl, l2, Bool.true_and, if_true, hxy]
  refine (if_neg (by decide)).trans ?_
  refine (if_neg (fun z => absurd (hst.symm.trans z) (by decide))).trans ?_
  rfl
section
variable {C : Ct} {a b c e tg iter : Expr} {fa fb fc fe : Nv → Option D} {ft : Nv → Option Bool} {pos : Pos} {es : List Expr} {fs fn fm : Nv → Option (List D)} {x y : Str} {p : Pos} {st : Stmt} {sts rest : List Stmt} {g h u : Gs}
theorem snil : BSs C [] nextS := ⟨_, ds_next, fun X h => pss_nil⟩
theorem scons (h1 : BS C st g) (h2 : BSs C rest h) : BSs C (st :: rest) (seqS g h) := by
  obtain ⟨t, t1, t2⟩ := h1
  obtain ⟨u, u1, u2⟩ := h2
  exact ⟨_, ds_seq t1 u1, fun X h => pss_cons (t2 X h) (u2 X h)⟩
theorem sone (h1 : BS C st g) : BSs C [st] g := by
  obtain ⟨t, t1, t2⟩ := h1
  exact ⟨_, t1, fun X h => pss_one (t2 X h)⟩
theorem sfrz (i : Nat) (h1 : BSs C sts g) : BSs C sts (frzS i g) := by
  obtain ⟨t, t1, t2⟩ := h1
  exact ⟨_, ds_frz i t1, t2⟩
theorem sfrk (i : Nat) (h1 : BSs C sts g) : BSs C sts (frkS i g) := by
  obtain ⟨t, t1, t2⟩ := h1
  exact ⟨_, ds_frk i t1, t2⟩
theorem snever : BS C st neverS := ⟨_, ds_never, fun X h => ps_never⟩
theorem ssnever : BSs C sts neverS := ⟨_, ds_never, fun X h => pss_never⟩
theorem sbrk : BS C (.Break pos) brkS := ⟨_, ds_brk, fun X h => ps_break⟩
theorem sret (ha : BE C a fa) : BS C (.Return (some a) pos) (retS fa) := by
  obtain ⟨t, t1, t2⟩ := ha
  exact ⟨_, ds_ret t1, fun X h => ps_ret (t2 X h)⟩
theorem sretN : BS C (.Return none pos) retNS := ⟨_, ds_retN, fun X h => ps_retN⟩
theorem sif (hc : BT C c ft) (h1 : BSs C sts g) (h2 : BSs C rest u) : BS C (.If c sts rest pos) (ifS ft g u) := by
  obtain ⟨tc, c1, c2⟩ := hc
  obtain ⟨t, t1, t2⟩ := h1
  obtain ⟨t', u1, u2⟩ := h2
  exact ⟨_, ds_if c1 t1 u1, fun X h => ps_if (c2 X h) (t2 X h) (u2 X h)⟩
theorem swh (n : Nat) (hc : BT C c ft) (h1 : BSs C sts g) : BS C (.While c sts [] pos) (whS ft g n) := by
  obtain ⟨tc, c1, c2⟩ := hc
  obtain ⟨t, t1, t2⟩ := h1
  exact ⟨_, ds_while n c1 t1, fun X h => ps_while h.po (c2 X h) (t2 X h)⟩
theorem sfor {js : List Nat} {gg : D → Nv → Option Nv} (hi : BI C tg iter fs) (hg : BG C js tg gg) (h1 : BSs C sts g)
    (hs : ∀ (X : Cx) x, foldedSetIterable iter X.env x = pure x := by intro _ _; rfl) : BS C (.For tg iter sts [] pos) (forS fs gg g) := by
  obtain ⟨wi, i1, i2⟩ := hi
  obtain ⟨tt, g1, g2⟩ := hg
  obtain ⟨t, t1, t2⟩ := h1
  exact ⟨_, ds_for i1 g1 t1, fun X h => ps_for h.po h.calm (i2 X h) (g2 X h) (t2 X h) (hs X)⟩
theorem sexpr (ha : BE C a fa) (hs : ∀ X : Cx, swapsWith a none pos.line X.env = pure false := by intro _; rfl) : BS C (.Expr a pos) (exprS fa) := by
  obtain ⟨t, t1, t2⟩ := ha
  exact ⟨_, ds_expr t1, fun X h => ps_expr (t2 X h) (hs X)⟩
/-- a name gets data -/
theorem sset (i : Nat) (hy : C.N[i]? = some y) (m : i ∈ C.M) (ha : BE C e fe) (hs : ∀ X : Cx, swapsWith e (some (.Name y p)) pos.line X.env = pure false := by intro _; rfl) : BS C (.Assign [.Name y p] e pos) (asgS fe (setN i)) := by
  obtain ⟨t, t1, t2⟩ := ha
  exact ⟨_, ds_asg t1 (dg_name i), fun X h => ps_set h.ndX (h.Nx hy) (h.Lx m hy) (t2 X h) (hs X) (h.Fx m hy)⟩
/-- a target gets data -/
theorem sasg {js : List Nat} {gg : D → Nv → Option Nv} (ha : BE C e fe) (hg : BG C js tg gg) (hs : ∀ X : Cx, swapsWithSole [tg] e pos.line X.env = pure false := by intro _; rfl) (hw : ∀ X : Cx, swappedStores [tg] e X.env = pure none := by intro _; rfl)
    (h1 : ∀ X : Cx, (assignEach [tg] X.env).map (·.2) = [assign tg X.env] := by intro _; rfl) : BS C (.Assign [tg] e pos) (asgS fe gg) := by
  obtain ⟨t, t1, t2⟩ := ha
  obtain ⟨tt, g1, g2⟩ := hg
  exact ⟨_, ds_asg t1 g1, fun X h => ps_asg (t2 X h) (g2 X h) (hs X) (hw X) (h1 X)⟩
theorem sown {i : Nat} (hl : BAs C i st fn) : BS C st (ownS i fn) := by
  obtain ⟨t, t1, t2⟩ := hl
  exact ⟨_, ds_own i t1, t2⟩
theorem sdat {i : Nat} (hl : BAs C i st fn) : BS C st (asgS (lsV fn) (setN i)) := by
  obtain ⟨t, t1, t2⟩ := hl
  exact ⟨_, ds_asg t1.e (dg_name i), t2⟩
theorem sodi (i : Nat) (hy : C.N[i]? = some y) (m : i ∈ C.M) {p2 : Pos} : BS C (.Assign [.Name y p] (.Dict [] [] p2) pos) (odiS i) :=
  ⟨_, ds_odi i, fun X h => ps_set h.ndX (h.Nx hy) (h.Lx m hy) pe_dnewK rfl (h.Fx m hy)⟩
section
variable {px py pt pt2 : Pos} {kt k2 : Nat} (i j : Nat) (hi : C.N[i]? = some x) (hj : C.N[j]? = some y) (hk : C.sc.kind = ScopeKind.function) (hx : C.sc.names.lookup x = some NameKind.local) (hy : C.sc.names.lookup y = some NameKind.local) (hl : (py.line == px.line) = true) (hxy : ([x, y].eraseDups.length == 2) = true)
    (hst : ([a, b].any fun | .Starred .. => true | _ => false) = false) (hf : [a, b].all (foldedForSure 8) = false) (hc : [a, b].all (constantsAlone 8) = false)
    (hs : ∀ X : Cx, swapsWithSole [.Tuple [.Name x px, .Name y py] kt pt] (.Tuple [a, b] k2 pt2) pos.line X.env = pure false) (hij : i ≠ j)
include hi hj hk hx hy hl hxy hst hf hc hs hij
theorem par_ps {ta : TA} (h2 : ∀ X, GoodX C X → PA X [a, b] ta) (X : Cx) (h : GoodX C X) : PS X (.Assign [.Tuple [.Name x px, .Name y py] kt pt] (.Tuple [a, b] k2 pt2) pos) (tPar i j ta) :=
  ps_par h.calm h.ndX (h.Nx hi) (h.Nx hj) hij (by rw [h.hsc]; exact hx) (by rw [h.hsc]; exact hy) (h2 X h) (swapped2 (by rw [h.hsc]; exact hk) (by rw [h.hsc]; exact hx) (by rw [h.hsc]; exact hy) hl hxy hst hf hc) (hs X)
theorem spar (ha : BE C a fa) (hb : BE C b fb) (s1 : ∀ X : Cx, starEach [a, b] X.env = (false, eval a X.env) :: starEach [b] X.env) (s2 : ∀ X : Cx, starEach [b] X.env = (false, eval b X.env) :: starEach [] X.env) :
    BS C (.Assign [.Tuple [.Name x px, .Name y py] kt pt] (.Tuple [a, b] k2 pt2) pos) (parS i j fa fb) := by
  obtain ⟨ta, a1, a2⟩ := ha
  obtain ⟨tb', b1', b2'⟩ := hb
  exact ⟨_, ds_par a1 b1', par_ps i j hi hj hk hx hy hl hxy hst hf hc hs hij fun X h => pa_cons (a2 X h) (pa_cons (b2' X h) pa_nil (s2 X)) (s1 X)⟩
theorem sparO (ha : BN C a fn) (hb : BN C b fm) (s1 : ∀ X : Cx, starEach [a, b] X.env = (false, eval a X.env) :: starEach [b] X.env) (s2 : ∀ X : Cx, starEach [b] X.env = (false, eval b X.env) :: starEach [] X.env) :
    BS C (.Assign [.Tuple [.Name x px, .Name y py] kt pt] (.Tuple [a, b] k2 pt2) pos) (parOS i j fn fm) := by
  obtain ⟨ta, a1, a2⟩ := ha
  obtain ⟨tb', b1', b2'⟩ := hb
  exact ⟨_, ds_parO a1 b1', par_ps i j hi hj hk hx hy hl hxy hst hf hc hs hij fun X h => pa_cons (a2 X h) (pa_cons (b2' X h) pa_nil (s2 X)) (s1 X)⟩
end
theorem saugA (i : Nat) (hy : C.N[i]? = some y) (m : i ∈ C.M) (ha : BE C e fe) : BS C (.AugAssign (.Name y p) .Add e pos) (augS i fe (oI fun i j => i + j)) := by
  obtain ⟨t, t1, t2⟩ := ha
  exact ⟨_, ds_aug rv_ipI t1, fun X h => ps_aug h.ndX (h.Nx hy) (h.Lx m hy) (t2 X h) ip_add (h.Fx m hy)⟩
section
variable (i : Nat) (hi : C.N[i]? = some x) (m : i ∈ C.L)
include hi m
theorem sapp {pa p1 : Pos} (ha : BE C a fa) (h1 : ∀ X : Cx, attributeBase (.Name x p) ("append" : Str) X.env (eval (.Name x p) X.env) = eval (.Name x p) X.env := by intro _; rfl)
    (h2 : ∀ X : Cx, ((backTo p1 (starEach [a] X.env)).all (fun x => !x.1) && (backToKw p1 (keywordEach [] X.env)).all (fun x => x.1.isSome) && decide ([a].length + ([] : List Keyword).length + (if ([] : List Keyword).isEmpty then 0 else 1) < 30)) = true := by intro _; rfl)
    (h3 : (pa.endLine == p1.line) = true := by rfl) (h4 : ∀ X : Cx, starEach [a] X.env = (false, eval a X.env) :: starEach [] X.env := by intro _; rfl) (h5 : ∀ X : Cx, (backTo p1 (starEach [] X.env)).any (·.1) = false := by intro _; rfl)
    (hs : ∀ X : Cx, swapsWith (.Call (.Attribute (.Name x p) "append" pa) [a] [] p1) none pos.line X.env = pure false := by intro _; rfl) : BS C (.Expr (.Call (.Attribute (.Name x p) "append" pa) [a] [] p1) pos) (appS i fa) := by
  obtain ⟨t, t1, t2⟩ := ha
  exact ⟨_, ds_app i t1, fun X h => by
    rw [h.K]
    exact ps_expr (pe_bm PySem.F.plainAttrs_list PySem.F.slot_list_append PySem.F.type_list_append mt_append (h.pv i hi m) (pa_cons (t2 X h) pa_nil (h4 X)) (h1 X) (h2 X) h3 (h4 X) (h5 X)) (hs X)⟩
theorem sext {pa p1 : Pos} (ha : BN C a fn) (h1 : ∀ X : Cx, attributeBase (.Name x p) ("extend" : Str) X.env (eval (.Name x p) X.env) = eval (.Name x p) X.env := by intro _; rfl)
    (h2 : ∀ X : Cx, ((backTo p1 (starEach [a] X.env)).all (fun x => !x.1) && (backToKw p1 (keywordEach [] X.env)).all (fun x => x.1.isSome) && decide ([a].length + ([] : List Keyword).length + (if ([] : List Keyword).isEmpty then 0 else 1) < 30)) = true := by intro _; rfl)
    (h3 : (pa.endLine == p1.line) = true := by rfl) (h4 : ∀ X : Cx, starEach [a] X.env = (false, eval a X.env) :: starEach [] X.env := by intro _; rfl) (h5 : ∀ X : Cx, (backTo p1 (starEach [] X.env)).any (·.1) = false := by intro _; rfl)
    (hs : ∀ X : Cx, swapsWith (.Call (.Attribute (.Name x p) "extend" pa) [a] [] p1) none pos.line X.env = pure false := by intro _; rfl) : BS C (.Expr (.Call (.Attribute (.Name x p) "extend" pa) [a] [] p1) pos) (extS i fn) := by
  obtain ⟨t, t1, t2⟩ := ha
  exact ⟨_, ds_ext i t1, fun X h => by
    rw [h.K]
    exact ps_expr (pe_bm PySem.F.plainAttrs_list PySem.F.slot_list_extend PySem.F.type_list_extend mt_extend (h.pv i hi m) (pa_cons (t2 X h) pa_nil (h4 X)) (h1 X) (h2 X) h3 (h4 X) (h5 X)) (hs X)⟩
theorem sextT {pa p1 : Pos} (ha : BE C a fa) (h1 : ∀ X : Cx, attributeBase (.Name x p) ("extend" : Str) X.env (eval (.Name x p) X.env) = eval (.Name x p) X.env := by intro _; rfl)
    (h2 : ∀ X : Cx, ((backTo p1 (starEach [a] X.env)).all (fun x => !x.1) && (backToKw p1 (keywordEach [] X.env)).all (fun x => x.1.isSome) && decide ([a].length + ([] : List Keyword).length + (if ([] : List Keyword).isEmpty then 0 else 1) < 30)) = true := by intro _; rfl)
    (h3 : (pa.endLine == p1.line) = true := by rfl) (h4 : ∀ X : Cx, starEach [a] X.env = (false, eval a X.env) :: starEach [] X.env := by intro _; rfl) (h5 : ∀ X : Cx, (backTo p1 (starEach [] X.env)).any (·.1) = false := by intro _; rfl)
    (hs : ∀ X : Cx, swapsWith (.Call (.Attribute (.Name x p) "extend" pa) [a] [] p1) none pos.line X.env = pure false := by intro _; rfl) : BS C (.Expr (.Call (.Attribute (.Name x p) "extend" pa) [a] [] p1) pos) (extTS i fa) := by
  obtain ⟨t, t1, t2⟩ := ha
  exact ⟨_, ds_extT i t1, fun X h => by
    rw [h.K]
    exact ps_expr (pe_bm PySem.F.plainAttrs_list PySem.F.slot_list_extend PySem.F.type_list_extend mt_extT (h.pv i hi m) (pa_cons (t2 X h) pa_nil (h4 X)) (h1 X) (h2 X) h3 (h4 X) (h5 X)) (hs X)⟩
theorem ssetO {p2 : Pos} (hb : BE C b fb) (ha : BE C a fa)
    (h1 : ∀ (X : Cx) v, assign (.Subscript (.Name x p) b p2) X.env v = (do
      let ov ← holding [v] (eval (.Name x p) X.env)
      let iv ← holding [v, ov] (eval b X.env)
      standAt p2
      holding [v, ov, iv] (setItem ov iv v)
      release [v, ov, iv] []) := by intros; rfl)
    (hs : ∀ X : Cx, swapsWithSole [.Subscript (.Name x p) b p2] a pos.line X.env = pure false := by intro _; rfl) (hw : ∀ X : Cx, swappedStores [.Subscript (.Name x p) b p2] a X.env = pure none := by intro _; rfl)
    (h2 : ∀ X : Cx, (assignEach [.Subscript (.Name x p) b p2] X.env).map (·.2) = [assign (.Subscript (.Name x p) b p2) X.env] := by intro _; rfl) : BS C (.Assign [.Subscript (.Name x p) b p2] a pos) (setS i fb fa) := by
  obtain ⟨ta, a1, a2⟩ := ha
  obtain ⟨tb', b1', b2'⟩ := hb
  exact ⟨_, ds_set i b1' a1, fun X h => ps_asg (a2 X h) (pg_sub (h.pv i hi m) (b2' X h) set_list (h1 X)) (hs X) (hw X) (h2 X)⟩
theorem sdput {p2 : Pos} (hb : BE C b fb) (ha : BE C a fa) (hs : ∀ X : Cx, swapsWith a (some (.Subscript (.Name x p) b p2)) pos.line X.env = pure false := by intro _; rfl) : BS C (.Assign [.Subscript (.Name x p) b p2] a pos) (dputS i fb fa) := by
  obtain ⟨ta, a1, a2⟩ := ha
  obtain ⟨tb', b1', b2'⟩ := hb
  exact ⟨_, ds_dput i b1' a1, fun X h => ps_dput (by have := h.un; omega) (h.pv i hi m) (b2' X h) (a2 X h) (hs X)⟩
theorem saugO {p2 : Pos} (hb : BE C b fb) (ha : BE C a fa)
    (h1 : ∀ ov iv new, augStore b ov iv new = (do holding [new, ov, iv] (setItem ov iv new); release [new, ov, iv] []; pure .next) := by intros; rfl) : BS C (.AugAssign (.Subscript (.Name x p) b p2) .Add a pos) (augLS i fb (fun i j => i + j) fa) := by
  obtain ⟨ta, a1, a2⟩ := ha
  obtain ⟨tb', b1', b2'⟩ := hb
  exact ⟨_, ds_augL i b1' a1, fun X h => ps_augS (h.pv i hi m) (b2' X h) get_list (a2 X h) ip_add set_list h1⟩
end
end
/-! ### a def -/
def ckF (sc : Scope) (N P : List Str) (L : List Nat) (gs : List Str) : Bool :=
  decide (sc.kind = ScopeKind.function) && !sc.isCoroutine && !sc.isGenerator && decide N.Nodup && decide (N.take P.length = P) && (P.all fun x => decide (sc.names.lookup x = some NameKind.local) || decide (sc.names.lookup x = some NameKind.cell)) &&
    (sc.names.all fun y => !decide (y.2 = NameKind.free)) && (L.all fun i => match N[i]? with | some x => visB sc x && notOdd x && locB sc x | none => true) && gs.all fun x => glB sc x && notOdd x
theorem ckF_ok {sc : Scope} {N P : List Str} {L : List Nat} {gs : List Str} (h : ckF sc N P L gs = true) : FnScope N P sc ∧ (∀ i ∈ L, ∀ x : Str, N[i]? = some x → Vis sc x ∧ (x == ("__debug__" : Str)) = false ∧ (x == ("__classdict__" : Str)) = false) ∧
    (∀ i ∈ L, ∀ x : Str, N[i]? = some x → L2.Loc sc x) ∧ ∀ (j : Nat) (x : Str), gs[j]? = some x → sc.names.lookup x = some .globalImplicit ∧ (x == ("__debug__" : Str)) = false := by
  unfold ckF at h
  simp only [Bool.and_eq_true, decide_eq_true_eq, Bool.not_eq_true', List.all_eq_true, Bool.or_eq_true, decide_eq_false_iff_not] at h
  obtain ⟨⟨⟨⟨⟨⟨⟨⟨h1, h2⟩, h3⟩, h4⟩, h5⟩, h6⟩, h7⟩, h8⟩, h9⟩ := h
  refine ⟨⟨h1, h2, h3, h4, h5, h6, h7⟩, fun i hi x e => ?_, fun i hi x e => ?_, fun j x e => ?_⟩
  · have q := h8 i hi
    rw [e] at q
    have q : (visB sc x && notOdd x && locB sc x) = true := q
    rw [Bool.and_eq_true, Bool.and_eq_true] at q
    exact ⟨visB_ok q.1.1, notOdd_ok q.1.2⟩
  · have q := h8 i hi
    rw [e] at q
    have q : (visB sc x && notOdd x && locB sc x) = true := q
    rw [Bool.and_eq_true, Bool.and_eq_true] at q
    exact locB_ok q.2
  · have q := h9 x (List.mem_of_getElem? e)
    exact ⟨glB_ok q.1, (notOdd_ok q.2).1⟩
theorem df_of {W : Wd} {x nm : Str} {st : Stmt} {N ps gs : List Str} {n m k : Nat} {L : List Nat} {g : Gs} (bn : ∀ x ∈ blts, W.mg x = none) (a : At W x nm st) (ck : ckF (defScope st) N ps L gs = true) (hn : ps.length = n) (hN : N.length = m) (hle : n ≤ m)
    (hb : ∀ (kV doc pm : Value) (an : Option Addr) (cdv ct : Value) (us : List Value), us.length = ps.length → bindArgs (PySem.W.fnOf nm nm (defArgs st) (defBody st) (defScope st) .none kV doc pm an cdv ct) ⟨us, []⟩ = pure (ps.zip us))
    (body : BSs ⟨W, k, defScope st, N, L, L, gs, none⟩ (defBody st) g) : Df W (k + 1) x n (runS n m g) := by
  obtain ⟨S, c1, c2, c3⟩ := ckF_ok ck
  obtain ⟨t, t1, t2⟩ := body
  refine df_mk a S hn hN hle hb fun f cdv A outer s H E hr => ⟨t, t2 _ ?_, t1⟩
  exact ⟨⟨W.T, W.kf, rfl⟩, rfl, S.nd, hr, rfl, PassesOwn.never, rfl, c1, fun i hi x e => ⟨c2 i hi x e, .inl rfl⟩, c3, bn, fun _ _ _ z => by cases z⟩
end Qd
end
section
set_option Elab.async false
set_option linter.all false
set_option autoImplicit false
set_option maxRecDepth 100000
set_option maxHeartbeats 2000000
/-! Q13: what the text's top leaves (the world's facts); an own list grown by +. -/
namespace Qd
open PySem
open PySem.Spec
open PyProof.Rows
open L2
open LamX (ExtN Tabs TabS)

theorem mm {i : Nat} {L : List Nat} (h : L.contains i = true) : i ∈ L := by simpa using h
theorem mf {p : Str × Str × Nat} (i : Nat) (h : tab[i]? = some p) : p ∈ tab := List.mem_of_getElem? h
def ownCat (i : Nat) (f : Nv → Option D) (ρ : Nv) : Option (List D) := (gO i ρ).bind fun ds => (f ρ).bind fun x => match x with
  | .list es => if ds.length + es.length ≤ lim then some (ds ++ es) else none
  | _ => none
theorem nOwnCat {C : Ct} {b : Expr} {fb : Nv → Option D} {x : Str} {p pos : Pos} (i : Nat) (hi : C.N[i]? = some x) (m : i ∈ C.L) (hb : BE C b fb) : BN C (.BinOp (.Name x p) .Add b pos) (ownCat i fb) := by
  obtain ⟨u, u1, u2⟩ := hb
  refine ⟨tOp rCatR (tVar i) u, fun H0 HF0 σ H HF ρ out Q R e q => ?_, fun X h => pe_op op_catR (h.pv i hi m) (u2 X h)⟩
  obtain ⟨ds, e1, e2⟩ := Option.bind_eq_some_iff.mp e
  obtain ⟨y, e3, e4⟩ := Option.bind_eq_some_iff.mp e2
  cases y <;> first | (cases e4; done) | skip
  rename_i es
  have e4 : (if ds.length + es.length ≤ lim then some (ds ++ es) else none) = some out := e4
  by_cases hk : ds.length + es.length ≤ lim
  · rw [if_pos hk] at e4
    cases e4
    obtain ⟨a, vs, h1, h2, h3, h4, h5⟩ := ownAt R e1
    refine ⟨.ref a, h1, u1 H0 HF0 σ H HF ρ _ _ R e3 fun v H1 HF1 f1 r1 => ?_⟩
    obtain ⟨b, ws, rfl, hd, hr⟩ := r1.lst_inv
    obtain ⟨k1, k2⟩ := f1.keepsD h4 h2
    have l1 := h5.length
    have l2 := hr.length
    refine ⟨a, b, vs, ws, rfl, rfl, .inl k1, rd_mono f1.sub hd, lim_le (by omega), fun z hz => ?_⟩
    have f3 := f1.trans (Fz.laidO (o := .lst (vs ++ ws)) f1.sub f1.tab f1.nt hz)
    exact q z _ _ HF1 f3 (f1.dom z hz) (Same.free f1.sub hz) upd_same (RpL.app (h5.mono f1.fro) hr)
  · rw [if_neg hk] at e4
    cases e4
end Qd
end
section
set_option Elab.async false
set_option linter.all false
set_option autoImplicit false
set_option maxRecDepth 100000
set_option maxHeartbeats 2000000
/-! Q14: objects pinned while a call runs (a function of one's own, its cells). -/
namespace Qd
open PySem
open PySem.Spec
open PyProof.Rows
open L2
open LamX (ExtN Tabs TabS CodeO)

def pO (o : Obj) : HO := .frz o (.ext fun _ => True)
abbrev Pl := List (Addr × Obj)
def addP (pl : Pl) (H : Hp) : Hp := fun a => match pl.lookup a with
  | some o => some (pO o)
  | none => H a
def delP (pl : Pl) (H : Hp) : Hp := fun a => match pl.lookup a with
  | some _ => none
  | none => H a
section
variable {pl : Pl} {H H' H2 : Hp} {h h' h2 : Heap} {P : Program} {w : World} {a : Addr} {o : Obj} {fs : List Addr}
theorem addP_in (e : pl.lookup a = some o) : addP pl H a = some (pO o) := by unfold addP; rw [e]
theorem addP_out (e : pl.lookup a = none) : addP pl H a = H a := by unfold addP; rw [e]
theorem delP_in (e : pl.lookup a = some o) : delP pl H a = none := by unfold delP; rw [e]
theorem delP_out (e : pl.lookup a = none) : delP pl H a = H a := by unfold delP; rw [e]
theorem delP_some {u : HO} (e : delP pl H a = some u) : pl.lookup a = none ∧ H a = some u := by
  cases q : pl.lookup a with
  | none => rw [delP_out q] at e; exact ⟨rfl, e⟩
  | some o => rw [delP_in q] at e; cases e
theorem lk_mem : ∀ {pl : Pl} {a : Addr} {o : Obj}, pl.lookup a = some o → (a, o) ∈ pl
  | [], _, _, h => by cases h
  | (b, u) :: r, a, o, h => by
    rw [List.lookup_cons] at h
    by_cases e : a = b
    · subst e
      rw [beq_self_eq_true] at h
      cases h
      exact List.mem_cons_self
    · rw [beq_eq_false_iff_ne.mpr e] at h
      exact List.mem_cons_of_mem _ (lk_mem h)
theorem lk_has : ∀ {pl : Pl} {a : Addr} {o : Obj}, (a, o) ∈ pl → ∃ o', pl.lookup a = some o'
  | [], _, _, h => by cases h
  | (b, u) :: r, a, o, h => by
    rw [List.lookup_cons]
    by_cases e : a = b
    · subst e
      exact ⟨u, by rw [beq_self_eq_true]⟩
    · rw [beq_eq_false_iff_ne.mpr e]
      rcases List.mem_cons.mp h with q | q
      · cases q
        exact absurd rfl e
      · exact lk_has q
/-- free to be pinned -/
def PinF (pl : Pl) (H : Hp) (h : Heap) : Prop := ∀ a o, pl.lookup a = some o → H a = none ∧ h.get? a = some o
/-- pinned -/
def PinD (pl : Pl) (H : Hp) : Prop := ∀ a o, pl.lookup a = some o → H a = some (pO o)
theorem pinD_add : PinD pl (addP pl H) := fun _ _ e => addP_in e
theorem PinF.out (p : PinF pl H h) {u : HO} (e : H a = some u) : pl.lookup a = none := by
  cases q : pl.lookup a with
  | none => rfl
  | some o =>
    rw [(p a o q).1] at e
    cases e
theorem PinD.out (p : PinD pl H) {u : HO} (e : H a = some u) (n : ∀ o, u ≠ pO o) : pl.lookup a = none := by
  cases q : pl.lookup a with
  | none => rfl
  | some o =>
    rw [p a o q] at e
    exact absurd (Option.some.inj e).symm (n o)
theorem hok_add (x : HOk P w H h) (p : PinF pl H h) : HOk P w (addP pl H) h := fun a u e => by
  cases q : pl.lookup a with
  | some o =>
    rw [addP_in q] at e
    cases e
    exact ⟨(p a o q).2, True.intro, ⟨o, (p a o q).2⟩, fun _ _ _ _ => True.intro⟩
  | none =>
    rw [addP_out q] at e
    exact (x a u e).stay (fun _ _ _ z => z) (fun b z => by rw [addP_out (p.out z)]; exact z) fun b xs z => by rw [addP_out (p.out z)]; exact z
theorem hok_del (x : HOk P w H h) (p : PinD pl H) : HOk P w (delP pl H) h := fun a u e => by
  obtain ⟨_, e⟩ := delP_some e
  exact (x a u e).stay (fun _ _ _ z => z) (fun b z => by rw [delP_out (p.out z fun o q => by cases q)]; exact z) fun b xs z => by rw [delP_out (p.out z fun o q => by cases q)]; exact z
theorem hok_pin (x : HOk P w H h) (p : PinD pl H) (e : pl.lookup a = some o) : h.get? a = some o := (x a _ (p a o e)).1
theorem un_pins (u : Un fs [] (addP pl H) H' h h') : PinD pl H' := fun a o e => u.frzs a o _ (addP_in e)
theorem un_out (u : Un fs [] (addP pl H) H' h h') (p : PinF pl H h) (x : HOk P w H' h') : Un fs [] H (delP pl H') h h' where
  keep := fun b o q n hb hx => by
    cases z : pl.lookup b with
    | some v =>
      have e := (p b v z).2
      rw [q] at e
      cases e
      exact hok_pin x (un_pins u) z
    | none => exact u.keep b o q (by rw [addP_out z]; exact n) hb hx
  slot := fun b o q n hb hx => by
    cases z : pl.lookup b with
    | some v =>
      have e := (p b v z).2
      rw [q] at e
      cases e
      exact ⟨o.slots, hok_pin x (un_pins u) z⟩
    | none => exact u.slot b o q (by rw [addP_out z]; exact n) hb hx
  free := fun b o q n hx => by
    cases z : pl.lookup b with
    | some v => exact delP_in z
    | none => rw [delP_out z]; exact u.free b o q (by rw [addP_out z]; exact n) hx
  there := fun b o q hx => u.there b o q hx
  tups := fun b xs q => by
    have z := p.out q
    rw [delP_out z]
    exact u.tups b xs (by rw [addP_out z]; exact q)
  frzs := fun b o v q => by
    have z := p.out q
    rw [delP_out z]
    exact u.frzs b o v (by rw [addP_out z]; exact q)
  tbls := fun b ps q => by
    have z := p.out q
    rw [delP_out z]
    exact u.tbls b ps (by rw [addP_out z]; exact q)
/-- behind a run with the pins taken off -/
theorem pinF_in (u : Un fs [] (delP pl H) H2 h h2) (p : PinD pl H) (x : HOk P w H h) (nf : ∀ a o, pl.lookup a = some o → a ∉ fs) : PinF pl H2 h2 := fun a o e =>
  ⟨u.free a o (hok_pin x p e) (delP_in e) (fun z => by cases z), u.keep a o (hok_pin x p e) (delP_in e) (nf a o e) (fun z => by cases z)⟩
theorem un_in (u : Un fs [] (delP pl H) H2 h h2) (p : PinD pl H) : Un fs [] H (addP pl H2) h h2 := by
  have out : ∀ {b : Addr}, H b = none → pl.lookup b = none := fun {b} n => by
    cases z : pl.lookup b with
    | none => rfl
    | some v =>
      rw [p b v z] at n
      cases n
  have dn : ∀ {b : Addr}, H b = none → delP pl H b = none := fun {b} n => by rw [delP_out (out n)]; exact n
  refine ⟨fun b o q n hb hx => u.keep b o q (dn n) hb hx, fun b o q n hb hx => u.slot b o q (dn n) hb hx, fun b o q n hx => by rw [addP_out (out n)]; exact u.free b o q (dn n) hx, u.there, fun b xs q => ?_, fun b o v q => ?_, fun b ps q => ?_⟩
  · have z := p.out q fun o e => by cases e
    rw [addP_out z]
    exact u.tups b xs (by rw [delP_out z]; exact q)
  · cases z : pl.lookup b with
    | some k =>
      rw [p b k z] at q
      rw [addP_in z]
      exact q
    | none =>
      rw [addP_out z]
      exact u.frzs b o v (by rw [delP_out z]; exact q)
  · have z := p.out q fun o e => by cases e
    rw [addP_out z]
    exact u.tbls b ps (by rw [delP_out z]; exact q)
end

/-! ### data seen through -/
def datO : HO → Bool
  | .lst _ => true
  | .tup _ => true
  | .dK _ => true
  | .frz _ (.lst _) => true
  | _ => false
def SameD (H H' : Hp) : Prop := ∀ a o, H a = some o → datO o = true → H' a = some o
mutual
theorem Rp.seen {K : PySem.W.Frag} {H H' : Hp} (e : SameD H H') : ∀ {d : PyData} {v : V}, Rp K H v d → Rp K H' v d
  | _, _, .non => .non
  | _, _, .bl b => .bl b
  | _, _, .int i => .int i
  | _, _, .str x => .str x
  | _, _, .lst h hs => .lst (h.elim (fun z => .inl (e _ _ z rfl)) fun ⟨o, z⟩ => .inr ⟨o, e _ _ z rfl⟩) (RpL.seen e hs)
  | _, _, .tup h hs => .tup (e _ _ h rfl) (RpL.seen e hs)
  | _, _, .dic h hs => .dic (e _ _ h rfl) hs
theorem RpL.seen {K : PySem.W.Frag} {H H' : Hp} (e : SameD H H') : ∀ {ds : List PyData} {vs : List V}, RpL K H vs ds → RpL K H' vs ds
  | _, _, .nil => .nil
  | _, _, .cons h hs => .cons (Rp.seen e h) (RpL.seen e hs)
end

/-! ### the heaps' growth, pins off and on -/
def addC (pl : Pl) (c : Addr) (q : Str) (HF : Hp) : Hp := fun a => if a = c then some (CodeO c q) else addP pl HF a
def resC (pl : Pl) (c : Addr) (HF0 HF2 : Hp) : Hp := fun a => if ((pl.lookup a).isSome || (decide (a = c) && (HF0 c).isNone)) = true then none else HF2 a
section
variable {pl : Pl} {T : List (Addr × Str)} {K : PySem.W.Frag} {c : Addr} {q : Str} {H HF H2 HF2 : Hp}
theorem codeO_pO {c : Addr} {q : Str} (o : Obj) : CodeO c q ≠ pO o := fun z => by
  unfold CodeO pO at z
  cases z
theorem resC_some {a : Addr} {u : HO} (e : resC pl c HF HF2 a = some u) : pl.lookup a = none ∧ (a = c → HF c ≠ none) ∧ HF2 a = some u := by
  unfold resC at e
  split at e
  · cases e
  · rename_i n
    rw [Bool.or_eq_true, Bool.and_eq_true, decide_eq_true_eq] at n
    refine ⟨?_, fun z w => n (.inr ⟨z, by rw [w]; rfl⟩), e⟩
    cases z : pl.lookup a with
    | none => rfl
    | some v => exact absurd (.inl (by rw [z]; rfl)) n
theorem resC_of {a : Addr} (h1 : pl.lookup a = none) (h2 : a = c → HF c ≠ none) : resC pl c HF HF2 a = HF2 a := by
  unfold resC
  refine if_neg fun z => ?_
  rw [Bool.or_eq_true, Bool.and_eq_true, decide_eq_true_eq] at z
  rcases z with z | ⟨z1, z2⟩
  · rw [h1] at z
    cases z
  · exact h2 z1 (Option.isNone_iff_eq_none.mp z2)
theorem addC_same (p : ∀ a o, pl.lookup a = some o → H a = none) (hc : H c = some (CodeO c q)) (s : Same HF H) : Same HF (addC pl c q HF) := fun b u e => by
  unfold addC
  by_cases hb : b = c
  · rw [if_pos hb]
    have z := s b u e
    rw [hb, hc] at z
    exact z
  · rw [if_neg hb]
    have z : pl.lookup b = none := by
      cases z : pl.lookup b with
      | none => rfl
      | some v =>
        have := s b u e
        rw [p b v z] at this
        cases this
    rw [addP_out z]
    exact e
theorem addC_sub (p : ∀ a o, pl.lookup a = some o → H a = none) (hc : H c = some (CodeO c q)) (s : Same HF H) : Same (addC pl c q HF) (addP pl H) := fun b u e => by
  unfold addC at e
  by_cases hb : b = c
  · rw [if_pos hb] at e
    have z : pl.lookup b = none := by
      cases z : pl.lookup b with
      | none => rfl
      | some v =>
        have := p b v z
        rw [hb, hc] at this
        cases this
    rw [addP_out z, hb, hc]
    exact e
  · rw [if_neg hb] at e
    cases z : pl.lookup b with
    | some v => rw [addP_in z] at e ⊢; exact e
    | none => rw [addP_out z] at e ⊢; exact s b u e
theorem tabs_add (t : Tabs T H) (p : ∀ a o, pl.lookup a = some o → H a = none) : Tabs T (addP pl H) := t.ext fun b o e => by
  cases z : pl.lookup b with
  | none => rw [addP_out z]; exact e
  | some v =>
    rw [p b v z] at e
    cases e
theorem tabs_del (t : Tabs T H) (p : PinD pl H) : Tabs T (delP pl H) := fun x hx => by
  obtain ⟨ps, h1, h2, h3⟩ := t x hx
  refine ⟨ps, by rw [delP_out (p.out h1 fun o e => by cases e)]; exact h1, h2, fun pos cv hc => ?_⟩
  obtain ⟨c, e1, e2⟩ := h3 pos cv hc
  exact ⟨c, e1, by rw [delP_out (p.out e2 codeO_pO)]; exact e2⟩
theorem fz_out (p : ∀ a o, pl.lookup a = some o → H a = none) (hc : H c = some (CodeO c q)) (s : Same HF H) (f : Fz T (addP pl H) (addC pl c q HF) HF2 H2) : Fz T H HF (resC pl c HF HF2) (delP pl H2) ∧ SameD HF2 (resC pl c HF HF2) := by
  have pd : PinD pl H2 := fun a o e => f.ext a _ (addP_in e) fun ps z => by cases z
  have outH : ∀ {b : Addr} {u : HO}, H b = some u → pl.lookup b = none := fun {b u} e => by
    cases z : pl.lookup b with
    | none => rfl
    | some v =>
      rw [p b v z] at e
      cases e
  have nc : pl.lookup c = none := outH hc
  have cF : HF2 c = some (CodeO c q) := f.fro c _ (by unfold addC; rw [if_pos rfl])
  have pF : PinD pl HF2 := fun a o e => f.fro a _ (by
    unfold addC
    rw [if_neg (fun z => by rw [z, nc] at e; cases e), addP_in e])
  refine ⟨⟨fun b u e => ?_, fun b u e n => ?_, fun b e => ?_, fun b u e => ?_, fun b u e n => ?_, tabs_del f.tab pd, fun b ps e => f.nt b ps (resC_some e).2.2⟩, fun b u e d => ?_⟩
  · obtain ⟨e1, _, e3⟩ := resC_some e
    rw [delP_out e1]
    exact f.sub b u e3
  · have z := outH e
    rw [delP_out z]
    exact f.ext b u (by rw [addP_out z]; exact e) n
  · cases z : pl.lookup b with
    | some v => exact p b v z
    | none =>
      rw [delP_out z] at e
      have := f.dom b e
      rw [addP_out z] at this
      exact this
  · rw [resC_of (outH (s b u e)) (fun z w => by rw [z, w] at e; cases e)]
    exact f.fro b u (addC_same p hc s b u e)
  · obtain ⟨e1, e2, e3⟩ := resC_some e
    have nb : b ≠ c := fun z => e2 z (by rw [← z]; exact n)
    have := f.new b u e3 (by unfold addC; rw [if_neg nb, addP_out e1]; exact n)
    rw [addP_out e1] at this
    exact this
  · refine (resC_of (pF.out e fun o z => by rw [z] at d; cases d) fun z => ?_).trans e
    rw [z, cF] at e
    rw [← Option.some.inj e] at d
    cases d
theorem fz_in (p : PinD pl HF) (s : Same HF H) (hn : ∀ a o, pl.lookup a = some o → H2 a = none) (f : Fz T (delP pl H) (delP pl HF) HF2 H2) : Fz T H HF (addP pl HF2) (addP pl H2) ∧ Same HF2 (addP pl HF2) := by
  have pH : PinD pl H := fun a o e => s a _ (p a o e)
  have outF : ∀ {b : Addr} {u : HO}, HF2 b = some u → pl.lookup b = none := fun {b u} e => by
    cases z : pl.lookup b with
    | none => rfl
    | some v =>
      have := f.sub b u e
      rw [hn b v z] at this
      cases this
  have outN : ∀ {b : Addr}, H b = none → pl.lookup b = none := fun {b} n => by
    cases z : pl.lookup b with
    | none => rfl
    | some v =>
      rw [pH b v z] at n
      cases n
  refine ⟨⟨fun b u e => ?_, fun b u e n => ?_, fun b e => ?_, fun b u e => ?_, fun b u e n => ?_, tabs_add f.tab hn, fun b ps e => ?_⟩, fun b u e => by rw [addP_out (outF e)]; exact e⟩
  · cases z : pl.lookup b with
    | some v => rw [addP_in z] at e ⊢; exact e
    | none => rw [addP_out z] at e ⊢; exact f.sub b u e
  · cases z : pl.lookup b with
    | some v =>
      rw [pH b v z] at e
      rw [addP_in z]
      exact e
    | none => rw [addP_out z]; exact f.ext b u (by rw [delP_out z]; exact e) n
  · cases z : pl.lookup b with
    | some v => rw [addP_in z] at e; cases e
    | none =>
      rw [addP_out z] at e
      have := f.dom b e
      rw [delP_out z] at this
      exact this
  · cases z : pl.lookup b with
    | some v =>
      rw [p b v z] at e
      rw [addP_in z]
      exact e
    | none => rw [addP_out z]; exact f.fro b u (by rw [delP_out z]; exact e)
  · cases z : pl.lookup b with
    | some v =>
      rw [p b v z] at n
      cases n
    | none =>
      rw [addP_out z] at e
      have := f.new b u e (by rw [delP_out z]; exact n)
      rw [delP_out z] at this
      exact this
  · cases z : pl.lookup b with
    | some v => rw [addP_in z] at e; cases e
    | none => rw [addP_out z] at e; exact f.nt b ps e
end
end Qd
end
section
set_option Elab.async false
set_option linter.all false
set_option autoImplicit false
set_option maxRecDepth 100000
set_option maxHeartbeats 2000000
/-! Q15: a lambda of one parameter made, and called wherever it went. -/
namespace Qd
open PySem
open PySem.Spec
open PyProof.Rows
open L2
open LamX (ExtN Tabs TabS CodeO TabB)

section
variable {X : Cx} {pins : List (Addr × Obj)} {σ : Sg} {H : Hp} {s : Shared}
/-- what is known of a new lambda at f, its code object at d -/
structure Made (X : Cx) (pins : List (Addr × Obj)) (σ : Sg) (T : List (Addr × Str)) (H : Hp) (q : Str) (params : Arguments) (body : Expr) (scope : Scope) (f d : Addr) (pm ctv : Value) (H1 : Hp) (s1 : Shared) : Prop where
  inv : Inv X pins σ H1 s1
  ext : ExtN H H1
  dom : ∀ a, H1 a = none → H a = none
  tab : Tabs T H1
  obj : s1.heap.get? f = some (PySem.W.kla_obj "<lambda>" q params body scope (cloFrom X.env.cells scope.names []) pm d ctv)
  unt : H1 f = none
  nbase : X.base.get? f = none
  nfr : f ∉ frs X.stack
  code : H1 d = some (CodeO d q)
theorem high_fr (I : Inv X pins σ H s) {a : Addr} (l : s.heap.objs.size ≤ a) : a ∉ frs X.stack ∧ X.base.get? a = none := by
  constructor
  · intro z
    rcases List.mem_cons.mp (I.stkSub _ z) with e | e
    · have k := I.lt
      rw [← e] at k
      exact absurd k (Nat.not_lt_of_le l)
    · exact I.nofs l e
  · cases z : X.base.get? a with
    | none => rfl
    | some o => exact absurd (Heap.lt_size (I.bs a o z).1) (Nat.not_lt_of_le l)
theorem lam_new {T : List (Addr × Str)} {c P : Addr} {q : Str} {params : Arguments} {body : Expr} {scope : Scope} {pos : Pos} {E : Value → Shared → Prop} {Q : Value → Shared → Prop} (I : Inv X pins σ H s) (TB : TabB X.base X.mg c P)
    (hcode : X.env.code = .ref c) (hq : X.env.qual ++ "<lambda>" = q) (hm : (P, q) ∈ T) (hu : ∀ p ∈ T, p.1 = P → p.2 = q) (hT : Tabs T H) (hdef : defaultsOf params X.env = ([], [])) (hfree : ∀ y ∈ scope.names, y.2 = .free → ∃ c, X.env.cells.lookup y.1 = some c)
    (k : ∀ (f d : Addr) (pm ctv : Value) (H1 : Hp) (s1 : Shared), Made X pins σ T H q params body scope f d pm ctv H1 s1 → Q (.ref f) s1) : wpAny (model X.prog X.w) X.A (eval (.Lambda params body scope pos) X.env) Q E s := by
  subst hq
  obtain ⟨ps, tP, tOk, tAll⟩ := hT (P, X.env.qual ++ "<lambda>") hm
  have atP : s.heap.get? P = some { cls := .none, data := .fields ps } := I.hok P _ tP
  have clo := closure_ok hfree
  apply PySem.W.kla_eval hdef
  rcases z : codeAmong pos ps.toList with _ | cv
  · apply PySem.W.kla_makeFunction (mg := X.mg) (c := c) (P := P) (ps := ps) clo I.ok.glob (I.mod.glob.keeps I.bk) hcode (TB.code.keeps I.bk) atP tOk z TB.gP (TB.bm.keeps I.bk)
    intro d ctv h1 tk kept dge dlt drec tab1
    obtain ⟨d2, oc, vs, t, de, hoc, hd, hv⟩ := drec
    cases de
    have size : s.heap.objs.size ≤ h1.objs.size := by omega
    have dn : H d = none := I.hok.fresh dge
    have nP : P ≠ d := ne_of_none tP dn
    have grow : ∀ b u, H b = some u → (∀ ps, u ≠ .tbl ps) → upd (upd H P (.tbl (ps ++ #[rawInt pos.line, rawInt pos.col, .ref d]))) d (CodeO d (X.env.qual ++ "<lambda>")) b = some u := by
      intro b u e n
      have n1 : b ≠ P := fun z => n ps (by rw [z, tP] at e; exact (Option.some.inj e).symm)
      rw [upd_ne (ne_of_none e dn), upd_ne n1, e]
    have J := LamX.inv_table (t' := tk) (more := #[rawInt pos.line, rawInt pos.col, .ref d])
      (h' := h1.push (PySem.W.kla_obj "<lambda>" (X.env.qual ++ "<lambda>") params body scope (cloFrom X.env.cells scope.names []) ((X.mg "__name__").getD .none) d ctv)) I tP
      (fun b o nb e => Heap.get?_push_of_some _ (kept b o nb e)) (Heap.get?_push_of_some _ tab1) dge ⟨oc, vs, t, Heap.get?_push_of_some _ hoc, hd, hv⟩
    have lst : (ps ++ #[rawInt pos.line, rawInt pos.col, Value.ref d]).toList = ps.toList ++ [rawInt pos.line, rawInt pos.col, .ref d] := by simp
    refine k h1.objs.size d _ ctv _ _ ⟨J, grow, fun b e => ?_, fun p hp => ?_, Heap.get?_push_size _ rfl, ?_, (high_fr I size).2, (high_fr I size).1, upd_same⟩
    · have n1 : b ≠ d := fun z => by rw [z, upd_same] at e; cases e
      rw [upd_ne n1] at e
      have n2 : b ≠ P := fun z => by rw [z, upd_same] at e; cases e
      rw [upd_ne n2] at e
      exact e
    · rcases Classical.em (p.1 = P) with hb | hb
      · rw [hu p hp hb, hb]
        refine ⟨_, by rw [upd_ne nP, upd_same], by rw [lst]; exact PySem.TriplesOk_snoc _ _ _ _ tOk, fun p2 w hw => ?_⟩
        rw [lst] at hw
        rcases LamX.among_app _ tOk hw with y | y
        · obtain ⟨g, g1, g2⟩ := tAll p2 w y
          exact ⟨g, g1, grow _ _ g2 LamX.codeO_ne⟩
        · exact ⟨d, y, upd_same⟩
      · obtain ⟨qs, q1, q2, q3⟩ := hT p hp
        refine ⟨qs, by rw [upd_ne (ne_of_none q1 dn), upd_ne hb, q1], q2, fun p2 w hw => ?_⟩
        obtain ⟨g, g1, g2⟩ := q3 p2 w hw
        exact ⟨g, g1, grow _ _ g2 LamX.codeO_ne⟩
    · have m1 : h1.objs.size ≠ d := by omega
      have m2 : h1.objs.size ≠ P := fun z => by
        have y := Heap.lt_size atP
        rw [← z] at y
        exact Nat.lt_irrefl _ (Nat.lt_of_lt_of_le y size)
      rw [upd_ne m1, upd_ne m2]
      exact I.hok.fresh size
  · obtain ⟨d, e, hco⟩ := tAll pos cv z
    subst e
    apply PySem.W.kla_makeFunctionHit (mg := X.mg) (c := c) (P := P) (ps := ps) clo I.ok.glob (I.mod.glob.keeps I.bk) hcode (TB.code.keeps I.bk) atP tOk z (TB.bm.keeps I.bk)
    intro ctv h1 tk kept size
    exact k h1.objs.size d _ ctv H _ ⟨I.kept fun b o e => Heap.get?_push_of_some _ (kept b o e), ExtN.refl H, fun _ e => e, hT, Heap.get?_push_size _ rfl, I.hok.fresh size, (high_fr I size).2, (high_fr I size).1, hco⟩

/-! ### its names -/
/-- one parameter, a; else captured names and globals -/
structure LamP (sc scope : Scope) (a : Str) : Prop where
  kind : scope.kind = .function
  co : scope.isCoroutine = false
  gen : scope.isGenerator = false
  par : scope.names.lookup a = some .local
  own : ∀ y ∈ scope.names, (y.2 = .local → y.1 = a) ∧ y.2 ≠ .cell
  free : ∀ y ∈ scope.names, y.2 = .free → (sc.names.lookup y.1 = some .cell ∨ sc.names.lookup y.1 = some .free) ∧ y.1 ≠ a
def lamPB (sc scope : Scope) (a : Str) : Bool :=
  decide (scope.kind = .function) && !scope.isCoroutine && !scope.isGenerator && decide (scope.names.lookup a = some NameKind.local) && scope.names.all fun y => (!decide (y.2 = .local) || decide (y.1 = a)) && !decide (y.2 = .cell) &&
    (!decide (y.2 = .free) || ((decide (sc.names.lookup y.1 = some .cell) || decide (sc.names.lookup y.1 = some .free)) && !decide (y.1 = a)))
theorem lamP_by {sc scope : Scope} {a : Str} (h : lamPB sc scope a = true) : LamP sc scope a := by
  unfold lamPB at h
  simp only [Bool.and_eq_true, Bool.or_eq_true, Bool.not_eq_true', decide_eq_true_eq, decide_eq_false_iff_not, List.all_eq_true] at h
  obtain ⟨⟨⟨⟨h1, h2⟩, h3⟩, h4⟩, h5⟩ := h
  refine ⟨h1, h2, h3, h4, fun y hy => ⟨fun e => ?_, (h5 y hy).1.2⟩, fun y hy e => ?_⟩
  · rcases (h5 y hy).1.1 with z | z
    · exact absurd e z
    · exact z
  · rcases (h5 y hy).2 with z | z
    · exact absurd e z
    · exact z
theorem LamP.has {a : Str} {scope : Scope} (L : LamP X.env.scope scope a) (ok : X.Ok) : ∀ y ∈ scope.names, y.2 = .free → ∃ c, X.env.cells.lookup y.1 = some c := fun y hy e => (L.free y hy e).1.elim (fun z => ok.has _ (.inl z)) fun z => ok.has _ (.inr z)
/-- the cells that it captured, as they stand -/
def cellsP (X : Cx) (scope : Scope) (h : Heap) : Pl := (cloFrom X.env.cells scope.names []).filterMap fun p => (h.get? p.2).map fun o => (p.2, o)
theorem clo_lk {scope : Scope} (hfree : ∀ y ∈ scope.names, y.2 = .free → ∃ c, X.env.cells.lookup y.1 = some c) {y : Str} {c : Addr} (e : (cloFrom X.env.cells scope.names []).lookup y = some c) : X.env.cells.lookup y = some c := by
  rcases cloFrom_mem (PySem.mem_of_lookup e) with hm | ⟨h1, h2⟩
  · cases hm
  · obtain ⟨c1, hc⟩ := hfree _ h1 rfl
    have hc : X.env.cells.lookup y = some c1 := hc
    rw [h2, hc] <;> rfl
theorem clo_mem {scope : Scope} (hfree : ∀ y ∈ scope.names, y.2 = .free → ∃ c, X.env.cells.lookup y.1 = some c) {p : Str × Addr} (e : p ∈ cloFrom X.env.cells scope.names []) : X.env.cells.lookup p.1 = some p.2 := by
  obtain ⟨y, c⟩ := p
  rcases cloFrom_mem e with hm | ⟨h1, h2⟩
  · cases hm
  · obtain ⟨c1, hc⟩ := hfree _ h1 rfl
    have hc : X.env.cells.lookup y = some c1 := hc
    show X.env.cells.lookup y = some c
    rw [h2, hc] <;> rfl
theorem cellsP_mem {scope : Scope} {h : Heap} (hfree : ∀ y ∈ scope.names, y.2 = .free → ∃ c, X.env.cells.lookup y.1 = some c) {b : Addr} {o : Obj} (e : (cellsP X scope h).lookup b = some o) : h.get? b = some o ∧ ∃ y, X.env.cells.lookup y = some b := by
  obtain ⟨p, hp, e2⟩ := List.mem_filterMap.mp (lk_mem e)
  obtain ⟨u, hu, e3⟩ := Option.map_eq_some_iff.mp e2
  cases e3
  exact ⟨hu, p.1, clo_mem hfree hp⟩
theorem cellsP_has {scope : Scope} {h : Heap} (hfree : ∀ y ∈ scope.names, y.2 = .free → ∃ c, X.env.cells.lookup y.1 = some c) {y : Str} {c : Addr} {o : Obj} (e : (cloFrom X.env.cells scope.names []).lookup y = some c) (ho : h.get? c = some o) : (cellsP X scope h).lookup c = some o := by
  obtain ⟨o', e2⟩ := lk_has (List.mem_filterMap.mpr ⟨(y, c), PySem.mem_of_lookup e, by rw [ho]; rfl⟩ : (c, o) ∈ cellsP X scope h)
  have e2 : (cellsP X scope h).lookup c = some o' := e2
  rw [e2, ← (cellsP_mem hfree e2).1, ho]
/-- the lambda's frame at its entry -/
theorem lam_in {A : Around} {outer : List PySem.Env} {scope : Scope} {a : Str} {ia : Nat} {f d : Addr} {v : V} {u : Value} {s2 : Shared} {H2 : Hp} {h3 : Heap} {tk : Nat} (I : Inv X pins σ H s) (L : LamP X.env.scope scope a) (hia : X.N[ia]? = some a) (hnd : X.N.Nodup)
    (e0 : Env0 X.prog X.w X.K X.mg X.base A outer s2 H2) (hd : A.handled = none) (cs : ∀ b o, (cellsP X scope s.heap).lookup b = some o → s2.heap.get? b = some o ∧ H2 b = none) (rv : RelV v u)
    (hns : h3.Ns s2.heap.objs.size fun y => ([(a, u)] : List (Str × Value)).reverse.lookup y) (kp : ∀ b o, s2.heap.get? b = some o → h3.get? b = some o) :
    Inv (LamX.lamCx X A outer s2 H2 E0 scope f d) [] (σ.set ia (some v)) H2 { s2 with heap := h3, toks := tk } := by
  have hfree := L.has I.ok
  have look : ∀ {y}, scope.names.lookup y = some .free → ∃ c, (cloFrom X.env.cells scope.names []).lookup y = some c := fun {y} hl => by
    have hy : (y, NameKind.free) ∈ scope.names := PySem.mem_of_lookup hl
    exact mem_lookup (cloFrom_has (cells := X.env.cells) (acc := []) hy)
  have cell : ∀ {y c}, (cloFrom X.env.cells scope.names []).lookup y = some c → ∀ w, s.heap.IsCell c w → h3.IsCell c w := fun {y c} e w ⟨o, ho, hw⟩ => ⟨o, kp _ _ (cs c o (cellsP_has hfree e ho)).1, hw⟩
  have noA : ∀ b : Addr, b ∉ (LamX.lamCx X A outer s2 H2 E0 scope f d).ex := fun b z => absurd (show b ∈ ([] : List Addr) from z) (by simp)
  have hlia : ia < σ.length := by rw [I.len]; exact (List.getElem?_eq_some_iff.mp hia).1
  refine ⟨⟨e0.mod, L.kind, rfl, rfl, Nat.le_refl _, fun y z c e1 e2 => I.ok.inj y z c (clo_lk hfree e1) (clo_lk hfree e2), fun y hy => ?_, fun y c z _ => ?_, fun _ => hd, Around.frames_deeper e0.frames, .inr ⟨rfl, rfl⟩, fun b z => absurd z (noA b), e0.bs, e0.bsz, fun b _ _ => noA b,
      fun b z => absurd z (noA b), e0.funs, e0.frf⟩,
    rfl, e0.bare, Un.kept kp, ⟨_, hns, fun i y x e1 e2 e3 => ?_⟩, fun y c e => ?_, e0.hok.fresh (Nat.le_refl _), fun y c e => ?_, fun q hq => absurd (show q ∈ ([] : List (Addr × Obj)) ++ [] from hq) (by simp), e0.hok.kept kp, by rw [List.length_set]; exact I.len⟩
  · have hy : scope.names.lookup y = some .cell ∨ scope.names.lookup y = some .free := hy
    rcases hy with hy | hy
    · exact absurd rfl (L.own _ (PySem.mem_of_lookup hy)).2
    · exact look hy
  · have z : false = true := z
    cases z
  · have e1 : X.N[i]? = some y := e1
    have e3 : Vis scope y := e3
    rcases e3 with k | k | k
    · have ya := (L.own _ (PySem.mem_of_lookup k)).1 rfl
      have ya : y = a := ya
      subst ya
      have hi : i = ia := by
        have l1 := (List.getElem?_eq_some_iff.mp e1).1
        exact (List.getElem?_inj l1 hnd).mp (e1.trans hia.symm)
      subst hi
      rw [List.getElem?_set_self hlia] at e2
      cases e2
      exact ⟨u, rv, .inl ⟨k, by simp⟩⟩
    · exact absurd rfl (L.own _ (PySem.mem_of_lookup k)).2
    · obtain ⟨kf, na⟩ := L.free _ (PySem.mem_of_lookup k) rfl
      have ne : ia ≠ i := fun z => by
        rw [← z, hia] at e1
        exact na (Option.some.inj e1).symm
      rw [List.getElem?_set_ne ne] at e2
      obtain ⟨m, hn, hl⟩ := I.loc
      obtain ⟨w, r, lk⟩ := hl i y x e1 e2 (kf.elim (fun k => .inr (.inl k)) (fun k => .inr (.inr k)))
      obtain ⟨c2, h2⟩ := look k
      refine ⟨w, r, .inr ⟨.inr k, c2, h2, ?_⟩⟩
      have c1 := clo_lk hfree h2
      rcases lk with ⟨k', _⟩ | ⟨_, c3, e', z⟩
      · have k' : X.env.scope.names.lookup y = some .local := k'
        rcases kf with k2 | k2 <;> rw [show X.env.scope.names.lookup y = _ from k2] at k' <;> cases k'
      · rw [c1] at e'
        cases e'
        exact cell h2 _ z
  · obtain ⟨w, z⟩ := I.cell y c (clo_lk hfree e)
    exact ⟨w, cell e w z⟩
  · obtain ⟨w, o, ho, hd⟩ := I.cell y c (clo_lk hfree e)
    exact (cs c o (cellsP_has hfree e ho)).2
end
end Qd
end
section
set_option Elab.async false
set_option linter.all false
set_option autoImplicit false
set_option maxRecDepth 100000
set_option maxHeartbeats 2000000
/-! Q16: what a lambda answers; defs that get a function; calls that hand over a lambda. -/
namespace Qd
open PySem
open PySem.Spec
open PyProof.Rows
open L2
open LamX (ExtN Tabs TabS CodeO TabB)

def datsOf (ρ : Nv) : Nv := ρ.map fun e => match e with
  | some (.dat d) => some (.dat d)
  | _ => none
def lamG (ia : Nat) (ρ : Nv) (fb : Nv → Option D) (ds : List D) : Option D := match ds with
  | [x] => fb ((datsOf ρ).set ia (some (.dat x)))
  | _ => none
theorem lamG_some {ia : Nat} {ρ : Nv} {fb : Nv → Option D} {ds : List D} {d : D} (h : lamG ia ρ fb ds = some d) : ∃ x, ds = [x] ∧ fb ((datsOf ρ).set ia (some (.dat x))) = some d := by
  unfold lamG at h
  split at h
  · exact ⟨_, rfl, h⟩
  · cases h
theorem datsOf_at {ρ : Nv} {i : Nat} {e : En} (h : (datsOf ρ)[i]? = some (some e)) : ∃ d, e = .dat d ∧ ρ[i]? = some (some (.dat d)) := by
  unfold datsOf at h
  rw [List.getElem?_map] at h
  obtain ⟨o, h1, h2⟩ := Option.map_eq_some_iff.mp h
  split at h2
  · cases h2
    exact ⟨_, rfl, h1⟩
  · cases h2
theorem vals_one {v : V} {us : List Value} (h : Vals [v] us) : ∃ u, us = [u] ∧ RelV v u := by
  cases h with
  | cons r t =>
    cases t
    exact ⟨_, rfl, r⟩
section
variable {X : Cx} {pins : List (Addr × Obj)} {σ : Sg} {T : List (Addr × Str)} {Hp0 H H0 HF0 HF : Hp} {s : Shared} {ρ : Nv} {kf k : Nat}
abbrev lamO (X : Cx) (q : Str) (params : Arguments) (body : Expr) (scope : Scope) (d : Addr) (pm ctv : Value) : Obj := PySem.W.kla_obj "<lambda>" q params body scope (cloFrom X.env.cells scope.names []) pm d ctv
abbrev lamPl (X : Cx) (q : Str) (params : Arguments) (body : Expr) (scope : Scope) (f d : Addr) (pm ctv : Value) (h : Heap) : Pl := (f, lamO X q params body scope d pm ctv) :: cellsP X scope h
theorem lamPl_f {q : Str} {params : Arguments} {body : Expr} {scope : Scope} {f d : Addr} {pm ctv : Value} {h : Heap} : (lamPl X q params body scope f d pm ctv h).lookup f = some (lamO X q params body scope d pm ctv) := by
  rw [List.lookup_cons, beq_self_eq_true]
theorem lamPl_c {q : Str} {params : Arguments} {body : Expr} {scope : Scope} {f d : Addr} {pm ctv : Value} {h : Heap} (hf : h.get? f = some (lamO X q params body scope d pm ctv)) (hfree : ∀ y ∈ scope.names, y.2 = .free → ∃ c, X.env.cells.lookup y.1 = some c) {b : Addr} {o : Obj} (e : (cellsP X scope h).lookup b = some o) :
    (lamPl X q params body scope f d pm ctv h).lookup b = some o := by
  rw [List.lookup_cons]
  by_cases z : b = f
  · rw [z] at e
    have := (cellsP_mem hfree e).1
    rw [hf] at this
    rw [z, beq_self_eq_true]
    exact this
  · rw [beq_eq_false_iff_ne.mpr z]
    exact e
theorem lamPl_ok {q : Str} {params : Arguments} {body : Expr} {scope : Scope} {f d : Addr} {pm ctv : Value} (M : Made X pins σ T Hp0 q params body scope f d pm ctv H s) (hfree : ∀ y ∈ scope.names, y.2 = .free → ∃ c, X.env.cells.lookup y.1 = some c) {b : Addr} {o : Obj} (e : (lamPl X q params body scope f d pm ctv s.heap).lookup b = some o) :
    H b = none ∧ s.heap.get? b = some o ∧ (b = f ∨ ∃ y, X.env.cells.lookup y = some b) := by
  rw [List.lookup_cons] at e
  by_cases z : b = f
  · rw [z, beq_self_eq_true] at e
    cases e
    rw [z]
    exact ⟨M.unt, M.obj, .inl rfl⟩
  · rw [beq_eq_false_iff_ne.mpr z] at e
    obtain ⟨e1, y, e2⟩ := cellsP_mem hfree e
    exact ⟨M.inv.freeC y b e2, e1, .inr ⟨y, e2⟩⟩
/-- the new lambda answers its body -/
theorem fn_lam {scope : Scope} {a q : Str} {ia : Nat} {f d : Addr} {params : Arguments} {body : Expr} {pm ctv : Value} {tb : TE} {fb : Nv → Option D} (M : Made X pins σ T Hp0 q params body scope f d pm ctv H s) (hq : X.env.qual ++ "<lambda>" = q) (R : Rel (wdOf X T kf) H0 HF0 σ H HF ρ) (L : LamP X.env.scope scope a)
    (hia : X.N[ia]? = some a) (hnd : X.N.Nodup) (hbind : ∀ u : Value, bindArgs (PySem.W.kla_fn "<lambda>" q params body scope (cloFrom X.env.cells scope.names []) pm (.ref d) ctv) ⟨[u], []⟩ = pure [(a, u)]) (hk : k + 1 ≤ kf)
    (hbody : ∀ (A : Around) (outer : List PySem.Env) (s2 : Shared) (H2 : Hp), Room k (A.deeper (LamX.lamEnv X scope s2.heap.objs.size f d)) → PE (LamX.lamCx X A outer s2 H2 E0 scope f d).nox body tb) (hden : DE (wdOf X T kf) tb fb) :
    FnIs (wdOf X T kf) (addC (lamPl X q params body scope f d pm ctv s.heap) d q HF) (.ref f) (lamG ia ρ fb) := by
  subst hq
  have hfree := L.has M.inv.ok
  have nfd : f ≠ d := fun z => by
    have z1 := M.unt
    rw [z, M.code] at z1
    cases z1
  have unt : ∀ b o, (lamPl X (X.env.qual ++ "<lambda>") params body scope f d pm ctv s.heap).lookup b = some o → H b = none := fun b o e => (lamPl_ok M hfree e).1
  refine ⟨f, rfl, ⟨lamO X (X.env.qual ++ "<lambda>") params body scope d pm ctv, .ext fun _ => True, ?_, fun h e => ⟨_, _, _, _, e⟩⟩, fun A outer s2 H2 HF2 us vs ds dz Q hr e0 sF gd hv hrp hG hQ => ?_⟩
  · unfold addC
    rw [if_neg nfd, addP_in lamPl_f]
    rfl
  · obtain ⟨x, rfl, hfb⟩ := lamG_some hG
    obtain ⟨v, rfl, rv⟩ := hrp.one
    obtain ⟨u, rfl, ru⟩ := vals_one hv
    have pdF : PinD (lamPl X (X.env.qual ++ "<lambda>") params body scope f d pm ctv s.heap) HF2 := fun b o e => sF b _ (by
      have nb : b ≠ d := fun z => by
        have := unt b o e
        rw [z, M.code] at this
        cases this
      unfold addC
      rw [if_neg nb, addP_in e])
    have pcF : PinD (cellsP X scope s.heap) HF2 := fun b o e => pdF b o (lamPl_c M.obj hfree e)
    have pcH : PinD (cellsP X scope s.heap) H2 := fun b o e => gd.sub _ _ (pcF b o e)
    have of2 : s2.heap.get? f = some (lamO X (X.env.qual ++ "<lambda>") params body scope d pm ctv) := (e0.hok f _ (gd.sub _ _ (pdF f _ lamPl_f))).1
    have cd : H2 d = some (CodeO d (X.env.qual ++ "<lambda>")) := gd.sub _ _ (sF d _ (by unfold addC; rw [if_pos rfl]))
    obtain ⟨⟨oc, cvs, t, hoc, hdc, hvc⟩, _, _⟩ := e0.hok d _ cd
    have dn : ∀ {b : Addr}, H2 b = none → delP (cellsP X scope s.heap) H2 b = none := fun {b} n => by
      cases z : (cellsP X scope s.heap).lookup b with
      | some o => exact delP_in z
      | none => rw [delP_out z]; exact n
    have e1 : Env0 X.prog X.w X.K X.mg X.base A outer s2 (delP (cellsP X scope s.heap) H2) := ⟨e0.frames, e0.mod, fun b o e => ⟨(e0.bs b o e).1, dn (e0.bs b o e).2⟩, e0.bsz, e0.funs, fun b hb => dn (e0.frf b hb), hok_del e0.hok pcH, e0.bare⟩
    have lim : s2.heap.NoLimit := e0.mod.nolimit.keeps fun b o e => (e0.bs b o e).1
    have hr1 : Room (k + 1) A := hr.mono hk
    refine PySem.W.kla_callFunE hr1.depth of2 rfl L.co L.gen rfl ⟨d, oc, cvs, t, rfl, hoc, hdc, hvc⟩ ?_
    rw [hbind]
    refine wpAny_pure (wpAny_newFunctionEnv (fun y hy => (L.own y hy).2) (fun y hy => by rw [List.mem_singleton.mp hy]; exact L.par) (fun h₁ hns hsb => ⟨lim.fresh _ hsb, ?_⟩) L.kind)
    show codeAny _ _ (.expr body (LamX.lamEnv X scope s2.heap.objs.size f d)) _ _
    have kp : ∀ b o, s2.heap.get? b = some o → h₁.get? b = some o := fun b o e => hsb.extBut b o (Nat.ne_of_lt (Heap.lt_size e)) (Heap.get?_push_of_some _ e)
    have J := lam_in (tk := s2.toks + ([(a, u)] : List (Str × Value)).length) (f := f) (d := d) M.inv L hia hnd e1 hr.hd (fun b o e => ⟨hok_pin e0.hok pcH e, delP_in e⟩) ru hns kp
    have seen : SameD HF2 (delP (cellsP X scope s.heap) HF2) := fun b o e h => by
      rw [delP_out (pcF.out e fun o z => by rw [z] at h; cases h)]
      exact e
    have Rl : Rel (wdOf X T kf) (delP (cellsP X scope s.heap) H2) (delP (cellsP X scope s.heap) HF2) (σ.set ia (some v)) (delP (cellsP X scope s.heap) H2) (delP (cellsP X scope s.heap) HF2) ((datsOf ρ).set ia (some (.dat x))) := by
      have at_ : ∀ {i : Nat} {e : En}, ((datsOf ρ).set ia (some (.dat x)))[i]? = some (some e) → (i = ia ∧ e = .dat x) ∨ (ia ≠ i ∧ ∃ d, e = .dat d ∧ ρ[i]? = some (some (.dat d))) := fun {i e} h => by
        rcases set_some h with ⟨h1, _, h2⟩ | ⟨h1, h2⟩
        · exact .inl ⟨h1.symm, h2.symm⟩
        · exact .inr ⟨h1, datsOf_at h2⟩
      have hls : ia < σ.length := by
        rw [M.inv.len]
        exact (List.getElem?_eq_some_iff.mp hia).1
      refine ⟨Fz.refl (fun b u e => ?_) (tabs_del gd.tab pcH) (fun b ps e => gd.nt b ps (delP_some e).2), by rw [List.length_set, List.length_set]; unfold datsOf; rw [List.length_map]; exact R.len, fun i e h => ?_, fun i j e e' b _ h1 _ m1 _ => ?_⟩
      · obtain ⟨n1, n2⟩ := delP_some e
        rw [delP_out n1]
        exact gd.sub _ _ n2
      · rcases at_ h with ⟨rfl, rfl⟩ | ⟨n, d', rfl, h2⟩
        · exact ⟨v, List.getElem?_set_self hls, Rp.seen seen rv⟩
        · obtain ⟨w, w1, w2⟩ := R.at_ i _ h2
          exact ⟨w, by rw [List.getElem?_set_ne n]; exact w1, Rp.seen seen (Rp.mono sF (Rp.mono (addC_same unt M.code R.fz.sub) w2))⟩
      · rcases at_ h1 with ⟨_, rfl⟩ | ⟨_, d', rfl, _⟩ <;> cases m1
    have ht := hden _ _ _ _ _ _ dz (fun v H' => ∃ HFz, Fz T (delP (cellsP X scope s.heap) H2) (delP (cellsP X scope s.heap) HF2) HFz H' ∧ Rp X.K HFz v dz) Rl hfb fun v H' HF' f1 r1 => ⟨HF', f1, r1⟩
    refine PySem.W.kla_codeExpr (wpAny_mono ((hbody A outer s2 _ (hr1.deeper _)).run [] _ _ _ _ (J.wish _) ht) (fun v' s' hq => ?_) fun e s' hq => hq.elim)
    obtain ⟨w', H', J', rv', HFz, fz, rz⟩ := hq
    have J' := J'.unwish
    have un : Un (frs outer) [] (delP (cellsP X scope s.heap) H2) H' s2.heap s'.heap := J'.base
    have pf : PinF (cellsP X scope s.heap) H' s'.heap := pinF_in un pcH e0.hok fun b o e z => by
      have := e0.frf b z
      rw [pcH b o e] at this
      cases this
    obtain ⟨z1, z2⟩ := fz_in pcF gd.sub (fun b o e => (pf b o e).1) fz
    exact ⟨w', addP (cellsP X scope s.heap) H', J'.os, J'.bare, un_in un pcH, hok_add J'.hok pf, rv', hQ w' _ (addP (cellsP X scope s.heap) HFz) z1 (Rp.mono z2 rz)⟩
end
end Qd
end
section
set_option Elab.async false
set_option linter.all false
set_option autoImplicit false
set_option maxRecDepth 100000
set_option maxHeartbeats 2000000
/-! Q17: defs whose last argument is a function. -/
namespace Qd
open PySem
open PySem.Spec
open PyProof.Rows
open L2
open LamX (ExtN Tabs TabS CodeO TabB)

abbrev Fu := List D → Option D
def SpG (W : Wd) (n : Nat) (F : Fu → List D → Option D) : Sp := fun vs H Q _ => vs.length = n + 1 ∧ ∃ HF ds G vs' vf d, vs = vs' ++ [vf] ∧ Gd W HF H ∧ RpL W.K HF vs' ds ∧ FnIs W HF vf G ∧ F G ds = some d ∧ ∀ v H' HF', Fz W.T H HF HF' H' → Rp W.K HF' v d → Q v H'
def startG (n N : Nat) (ds : List D) (G : Fu) : Nv := (ds.map fun d => some (En.dat d)) ++ some (En.fn G) :: List.replicate (N - (n + 1)) none
def runG (n N : Nat) (g : Gs) (G : Fu) (ds : List D) : Option D := if ds.length = n then (g (startG n N ds G)).bind outD else none
theorem rel_startG {W : Wd} {HF H : Hp} {n N : Nat} {Ns : List Str} {vs : List V} {vf : V} {ds : List D} {G : Fu} (gd : Gd W HF H) (hr : RpL W.K HF vs ds) (hf : FnIs W HF vf G) (hn : vs.length = n) (hN : Ns.length = N) (hle : n + 1 ≤ N) : Rel W H HF (L2.start Ns (vs ++ [vf])) H HF (startG n N ds G) := by
  have hds : ds.length = n := by rw [← hr.length]; exact hn
  have at_ : ∀ {i : Nat} {e : En}, (startG n N ds G)[i]? = some (some e) → (∃ d, ds[i]? = some d ∧ e = .dat d) ∨ (i = n ∧ e = .fn G) := fun {i e} h => by
    unfold startG at h
    by_cases hi : i < (ds.map fun d => some (En.dat d)).length
    · rw [List.getElem?_append_left hi, List.getElem?_map] at h
      obtain ⟨d, h1, h2⟩ := Option.map_eq_some_iff.mp h
      exact .inl ⟨d, h1, (Option.some.inj h2).symm⟩
    · rw [List.getElem?_append_right (by omega), List.length_map, hds] at h
      rw [List.length_map, hds] at hi
      by_cases z : i = n
      · rw [z, Nat.sub_self] at h
        cases h
        exact .inr ⟨z, rfl⟩
      · have : i - n = (i - n - 1) + 1 := by omega
        rw [this, List.getElem?_cons_succ, List.getElem?_replicate] at h
        split at h <;> cases h
  refine ⟨gd.fz, ?_, fun i e h => ?_, fun i j e e' a _ h1 _ m1 _ => ?_⟩
  · unfold startG L2.start
    simp only [List.length_append, List.length_map, List.length_cons, List.length_replicate, List.length_nil, hn, hN, hds]
    omega
  · rcases at_ h with ⟨d, h1, rfl⟩ | ⟨rfl, rfl⟩
    · obtain ⟨v, h2, h3⟩ := hr.get h1
      refine ⟨v, ?_, h3⟩
      have hi : i < vs.length := (List.getElem?_eq_some_iff.mp h2).1
      unfold L2.start
      rw [List.getElem?_append_left (by rw [List.length_map, List.length_append]; omega), List.getElem?_map, List.getElem?_append_left hi, h2]
      rfl
    · refine ⟨vf, ?_, hf⟩
      unfold L2.start
      rw [List.getElem?_append_left (by rw [List.length_map, List.length_append, hn]; simp), List.getElem?_map, List.getElem?_append_right (by omega), hn, Nat.sub_self]
      rfl
  · rcases at_ h1 with ⟨d, _, rfl⟩ | ⟨_, rfl⟩ <;> cases m1
theorem ds_runG {W : Wd} {t : TS} {g : Gs} {n N : Nat} {Ns : List Str} (h : DS W t g) (hN : Ns.length = N) (hle : n + 1 ≤ N) {vs : List V} {H : Hp} {Q : VK} {E : XK} (q : SpG W n (runG n N g) vs H Q E) : t { nx := fun _ H' => Q .non H', rt := Q } (L2.start Ns vs) H := by
  obtain ⟨hl, HF, ds, G, vs', vf, d, rfl, gd, hr, hf, e, q⟩ := q
  have hv : vs'.length = n := by
    rw [List.length_append] at hl
    simpa using hl
  have hds : ds.length = n := by rw [← hr.length]; exact hv
  unfold runG at e
  rw [if_pos hds] at e
  obtain ⟨o, e1, e2⟩ := Option.bind_eq_some_iff.mp e
  refine h H HF _ H HF _ o _ (rel_startG gd hr hf hv hN hle) e1 ?_
  cases o with
  | rt d' =>
    cases e2
    exact fun v H' HF' f r => q v H' HF' f r
  | nx ρ =>
    cases e2
    exact fun σ' H' HF' R' s' => q .non H' HF' R'.fz .non
  | bk ρ => cases e2
  | ct ρ => cases e2
/-- n data, then a function -/
structure DfG (W : Wd) (k : Nat) (x : Str) (n : Nat) (F : Fu → List D → Option D) : Prop where
  ex : ∃ f fd ps, W.mg x = some (.ref f) ∧ PySem.W.keepIn W.K (.ref f) = true ∧ Binds W.K fd ps [] ∧ FnOk W.prog W.w W.K W.mg W.base CX0 k f fd ps (SpG W n F)
theorem DfG.mono {W : Wd} {j k : Nat} {x : Str} {n : Nat} {F : Fu → List D → Option D} (h : DfG W j x n F) (l : j ≤ k) : DfG W k x n F := by
  obtain ⟨f, fd, ps, h1, h2, h3, h4⟩ := h.ex
  exact ⟨f, fd, ps, h1, h2, h3, h4.mono l⟩
theorem dfG_of {W : Wd} {x nm : Str} {st : Stmt} {N ps gs : List Str} {n m k : Nat} {L : List Nat} {g : Gs} (bn : ∀ x ∈ blts, W.mg x = none) (a : At W x nm st) (ck : ckF (defScope st) N ps L gs = true) (hn : ps.length = n + 1) (hN : N.length = m) (hle : n + 1 ≤ m)
    (hb : ∀ (kV doc pm : Value) (an : Option Addr) (cdv ct : Value) (us : List Value), us.length = ps.length → bindArgs (PySem.W.fnOf nm nm (defArgs st) (defBody st) (defScope st) .none kV doc pm an cdv ct) ⟨us, []⟩ = pure (ps.zip us))
    (body : BSs ⟨W, k, defScope st, N, L, L, gs, none⟩ (defBody st) g) : DfG W (k + 1) x n (runG n m g) := by
  obtain ⟨S, c1, c2, c3⟩ := ckF_ok ck
  obtain ⟨t, t1, t2⟩ := body
  obtain ⟨f, fd, F, hm⟩ := a.ex
  refine ⟨f, fd, ps, hm, F.kp, FunD.bindsN F hb, ?_⟩
  refine F.ok S (fun vs H Q E h => by rw [hn]; exact h.1) fun cdv A outer s H vs Q E hr h => ?_
  refine ⟨t, (t2 (bodyCx W N nm st f cdv A outer s H E) ?_).nox, ds_runG t1 hN hle h⟩
  exact ⟨⟨W.T, W.kf, rfl⟩, rfl, S.nd, hr, rfl, PassesOwn.never, rfl, c1, fun i hi x e => ⟨c2 i hi x e, .inl rfl⟩, c3, bn, fun _ _ _ z => by cases z⟩
/-! ### calls -/
section
variable {C : Ct} {a b c e : Expr} {fa fb fc fe : Nv → Option D} {pos : Pos} {es : List Expr} {fs : Nv → Option (List D)} {x y : Str} {p : Pos}
/-- a call of a function that a name holds -/
theorem bfn (i : Nat) (hi : C.N[i]? = some x) (m : i ∈ C.L) (hk : C.W.kf ≤ C.k) (ha : BA C (a :: es) fs) (he : ∀ X : Cx, starEach (a :: es) X.env = (false, eval a X.env) :: starEach es X.env := by intro _; rfl) (hpl : ∀ X : Cx, (backTo pos (starEach es X.env)).any (·.1) = false := by intro _; rfl) :
    BE C (.Call (.Name x p) (a :: es) [] pos) (fnV i fs) := by
  obtain ⟨ts, s1, s2⟩ := ha
  refine ⟨_, de_fn i s1, fun X h => ?_⟩
  obtain ⟨T, kf, e⟩ := h.w
  have e2 : kf ≤ C.k := by
    rw [e] at hk
    exact hk
  rw [e]
  exact pe_fn (h.room.mono e2) (h.Nx hi) (h.Vx m hi) (s2 X h) (h.vis i m x hi).2.1 (h.vis i m x hi).2.2 (he X) (hpl X)
/-- arguments whose last is a function -/
def DAg (W : Wd) (t : TA) (f : Nv → Option (List D × Fu)) : Prop := ∀ (H0 HF0 : Hp) (σ : Sg) (H HF : Hp) (ρ : Nv) (ds : List D) (G : Fu) (Q : List V → Hp → Prop), Rel W H0 HF0 σ H HF ρ → f ρ = some (ds, G) →
  (∀ vs vf H' HF', Fz W.T H HF HF' H' → RpL W.K HF' vs ds → FnIs W HF' vf G → Q (vs ++ [vf]) H') → t σ H Q
def fnA (i : Nat) (ρ : Nv) : Option (List D × Fu) := (gF i ρ).map fun G => ([], G)
def consG' (f : Nv → Option D) (g : Nv → Option (List D × Fu)) (ρ : Nv) : Option (List D × Fu) := (f ρ).bind fun x => (g ρ).map fun r => (x :: r.1, r.2)
theorem dag_fn {W : Wd} (i : Nat) : DAg W (tCons (tVar i) tNil) (fnA i) := by
  intro H0 HF0 σ H HF ρ ds G Q R e q
  obtain ⟨G', e1, e2⟩ := Option.map_eq_some_iff.mp e
  cases e2
  obtain ⟨v, h1, h2⟩ := R.at_ i _ (gF_eq e1)
  exact ⟨v, h1, q [] v H HF R.gd.fz .nil h2⟩
theorem dag_cons {W : Wd} {ta : TE} {tr : TA} {f : Nv → Option D} {g : Nv → Option (List D × Fu)} (h : DE W ta f) (h' : DAg W tr g) : DAg W (tCons ta tr) (consG' f g) := by
  intro H0 HF0 σ H HF ρ ds G Q R e q
  obtain ⟨x, e1, e2⟩ := Option.bind_eq_some_iff.mp e
  obtain ⟨r, e3, e4⟩ := Option.map_eq_some_iff.mp e2
  obtain ⟨ds', G'⟩ := r
  cases e4
  refine h H0 HF0 σ H HF ρ x _ R e1 fun v H1 HF1 f1 r1 => ?_
  refine h' H0 HF0 σ H1 HF1 ρ ds' _ _ (R.grow f1) e3 fun vs vf H2 HF2 f2 r2 g2 => ?_
  exact q (v :: vs) vf H2 HF2 (f1.trans f2) (.cons (r1.mono f2.fro) r2) g2
def BAg (C : Ct) (es : List Expr) (f : Nv → Option (List D × Fu)) : Prop := ∃ t, DAg C.W t f ∧ ∀ X, GoodX C X → PA X es t
theorem agfn (i : Nat) (hi : C.N[i]? = some x) (m : i ∈ C.L) (hst : ∀ X : Cx, starEach ([.Name x p] : List Expr) X.env = (false, eval (.Name x p) X.env) :: starEach [] X.env := by intro _; rfl) : BAg C [.Name x p] (fnA i) :=
  ⟨_, dag_fn i, fun X h => pa_cons (h.pv i hi m) pa_nil (hst X)⟩
theorem agcons {g : Nv → Option (List D × Fu)} (ha : BE C a fa) (hs : BAg C es g) (hst : ∀ X : Cx, starEach (a :: es) X.env = (false, eval a X.env) :: starEach es X.env := by intro _; rfl) : BAg C (a :: es) (consG' fa g) := by
  obtain ⟨ta, a1, a2⟩ := ha
  obtain ⟨ts, s1, s2⟩ := hs
  exact ⟨_, dag_cons a1 s1, fun X h => pa_cons (a2 X h) (s2 X h) (hst X)⟩
def cG (g : Nv → Option (List D × Fu)) (F : Fu → List D → Option D) (ρ : Nv) : Option D := (g ρ).bind fun r => F r.2 r.1
theorem runG_len {n N : Nat} {g : Gs} (G : Fu) (ds : List D) (d : D) (h : runG n N g G ds = some d) : ds.length = n := by
  unfold runG at h
  split at h
  · rename_i hl
    exact hl
  · cases h
theorem de_callG {W : Wd} {n : Nat} {F : Fu → List D → Option D} {tr : TA} {g : Nv → Option (List D × Fu)} (h : DAg W tr g) (hF : ∀ G ds d, F G ds = some d → ds.length = n) : DE W (tCall (SpG W n F) [] E0 tr) (cG g F) := by
  intro H0 HF0 σ H HF ρ d Q R e q
  obtain ⟨⟨ds, G⟩, e1, e2⟩ := Option.bind_eq_some_iff.mp e
  refine h H0 HF0 σ H HF ρ ds G _ R e1 fun vs vf H1 HF1 f1 r1 g1 => ?_
  refine ⟨?_, HF1, ds, G, vs, vf, d, List.append_nil _, f1.gd, r1, g1, e2, fun v H2 HF2 f2 r2 => q v H2 HF2 (f1.trans f2) r2⟩
  rw [List.append_nil, List.length_append, r1.length, hF G ds d e2]
  rfl
theorem bcallG {k n : Nat} {F : Fu → List D → Option D} {g : Nv → Option (List D × Fu)} (j : Nat) (d : DfG C.W k x n F) (hF : ∀ G ds d, F G ds = some d → ds.length = n) (hk : k ≤ C.k) (hj : C.gs[j]? = some x) (ha : BAg C (a :: es) g)
    (he : ∀ X : Cx, starEach (a :: es) X.env = (false, eval a X.env) :: starEach es X.env := by intro _; rfl) (hpl : ∀ X : Cx, (backTo pos (starEach es X.env)).any (·.1) = false := by intro _; rfl) : BE C (.Call (.Name x p) (a :: es) [] pos) (cG g F) := by
  obtain ⟨ts, s1, s2⟩ := ha
  refine ⟨_, de_callG s1 hF, fun X h => ?_⟩
  obtain ⟨T, kf, e⟩ := h.w
  rw [e]
  rw [e] at d
  obtain ⟨f, fd, ps, h1, h2, h3, h4⟩ := (d.mono hk).ex
  exact pe_call h4 h.room (h.Gl hj) h1 h2 h3 .nil pass0 (s2 X h) (h.gl j x hj).2 (he X) (hpl X)
end
/-! ### a lambda as the last argument -/
/-- arguments, then a lambda made -/
structure PAL (X : Cx) (T : List (Addr × Str)) (q : Str) (params : Arguments) (body : Expr) (scope : Scope) (es : List Expr) (t : TA) : Prop where
  run : ∀ (pos : Pos) (pins : List (Addr × Obj)) (s : Shared) (σ : Sg) (H : Hp) (Q : List V → Hp → Prop), Inv X pins σ H s → t σ H Q → wpAny (model X.prog X.w) X.A (spliced (backTo pos (starEach es X.env)))
    (fun us s1 => ∃ vs us1 Hp0 f d pm ctv H1, us = us1 ++ [Value.ref f] ∧ Vals vs us1 ∧ Q vs Hp0 ∧ Made X pins σ T Hp0 q params body scope f d pm ctv H1 s1) X.xe s
def tLam0 (T : List (Addr × Str)) : TA := fun _ H Q => Tabs T H ∧ Q [] H
theorem da_lam0 {W : Wd} : DA W (tLam0 W.T) nilA := fun H0 HF0 σ H HF ρ ds Q R e q => by
  cases e
  exact ⟨R.gd.tab, q [] H HF R.gd.fz .nil⟩
section
variable {X : Cx} {T : List (Addr × Str)} {c P : Addr} {q : Str} {params : Arguments} {body : Expr} {scope : Scope} {lpos : Pos}
theorem pal_lam (TB : TabB X.base X.mg c P) (hcode : X.env.code = .ref c) (hq : X.env.qual ++ "<lambda>" = q) (hm : (P, q) ∈ T) (hu : ∀ p ∈ T, p.1 = P → p.2 = q) (hdef : defaultsOf params X.env = ([], [])) (hfree : X.Ok → ∀ y ∈ scope.names, y.2 = .free → ∃ c, X.env.cells.lookup y.1 = some c) :
    PAL X T q params body scope [.Lambda params body scope lpos] (tLam0 T) := by
  refine ⟨fun pos pins s σ H Q I h => ?_⟩
  obtain ⟨hT, h⟩ := h
  show wpAny _ _ (spliced ((false, eval (.Lambda params body scope lpos) X.env) :: backTo pos (starEach [] X.env))) _ _ s
  refine Calls.spliced_cons (lam_new I TB hcode hq hm hu hT hdef (hfree I.ok) fun f d pm ctv H1 s1 M => ?_)
  exact Calls.spliced_nil ⟨[], [], H, f, d, pm, ctv, H1, rfl, .nil, h, M⟩
theorem pal_cons {e : Expr} {es : List Expr} {te : TE} {t : TA} (ha : PE X e te) (hr : PAL X T q params body scope es t) (hs : starEach (e :: es) X.env = (false, eval e X.env) :: starEach es X.env) : PAL X T q params body scope (e :: es) (tCons te t) := by
  refine ⟨fun pos pins s σ H Q I h => ?_⟩
  rw [hs]
  show wpAny _ _ (spliced ((false, eval e X.env) :: backTo pos (starEach es X.env))) _ _ s
  refine Calls.spliced_cons (thn (ha.run pins s σ H _ I h) fun u s1 ⟨x, H1, I1, r1, q1⟩ => ?_)
  exact thn (hr.run pos pins s1 σ H1 _ I1 q1) fun us s2 ⟨vs, us1, Hp0, f, d, pm, ctv, H2, e2, rv, q2, M⟩ => ⟨x :: vs, u :: us1, Hp0, f, d, pm, ctv, H2, by rw [e2]; rfl, .cons r1 rv, q2, M⟩
/-- the call: what is asked of the callee, and of the lambda's body -/
def tLamC (W : Wd) (n : Nat) (F : Fu → List D → Option D) (ia : Nat) (fb : Nv → Option D) (ta : TA) : TE := fun σ H Q => ta σ H fun vs H1 => ∃ H0 HF0 HF ρ ds d, Rel W H0 HF0 σ H1 HF ρ ∧ RpL W.K HF vs ds ∧ ds.length = n ∧ F (lamG ia ρ fb) ds = some d ∧
  ∀ v H' HF', Fz W.T H1 HF HF' H' → Rp W.K HF' v d → Q v H'
def lamV (fs : Nv → Option (List D)) (F : Fu → List D → Option D) (ia : Nat) (fb : Nv → Option D) (ρ : Nv) : Option D := (fs ρ).bind fun ds => F (lamG ia ρ fb) ds
theorem de_lamC {W : Wd} {n : Nat} {F : Fu → List D → Option D} {ia : Nat} {fb : Nv → Option D} {ta : TA} {fs : Nv → Option (List D)} (h : DA W ta fs) (hF : ∀ G ds d, F G ds = some d → ds.length = n) : DE W (tLamC W n F ia fb ta) (lamV fs F ia fb) := by
  intro H0 HF0 σ H HF ρ d Q R e q
  obtain ⟨ds, e1, e2⟩ := Option.bind_eq_some_iff.mp e
  refine h H0 HF0 σ H HF ρ ds _ R e1 fun vs H1 HF1 f1 r1 => ?_
  exact ⟨H0, HF0, HF1, ρ, ds, d, R.grow f1, r1, hF _ _ _ e2, e2, fun v H2 HF2 f2 r2 => q v H2 HF2 (f1.trans f2) r2⟩
theorem pe_lamC {kf k kl n ia : Nat} {x a : Str} {F : Fu → List D → Option D} {fb : Nv → Option D} {tb : TE} {ta : TA} {e : Expr} {es : List Expr} {p pos : Pos} (D1 : DfG (wdOf X T kf) k x n F) (hr : Room k X.A) (hg : Gl X x) (hfn : ∀ x : Str, X.fn x = true)
    (ha : PAL X T q params body scope (e :: es) ta) (hq : X.env.qual ++ "<lambda>" = q) (L : LamP X.env.scope scope a) (hia : X.N[ia]? = some a) (hnd : X.N.Nodup) (hk : kl + 1 ≤ kf)
    (hbind : ∀ (q : Str) (cl : List (Str × Addr)) (pm cv ctv u : Value), bindArgs (PySem.W.kla_fn "<lambda>" q params body scope cl pm cv ctv) ⟨[u], []⟩ = pure [(a, u)])
    (hbody : ∀ (A : Around) (outer : List PySem.Env) (s2 : Shared) (H2 : Hp) (f d : Addr), Room kl (A.deeper (LamX.lamEnv X scope s2.heap.objs.size f d)) → PE (LamX.lamCx X A outer s2 H2 E0 scope f d).nox body tb) (hden : DE (wdOf X T kf) tb fb) (hdb : (x == ("__debug__" : Str)) = false)
    (he : starEach (e :: es) X.env = (false, eval e X.env) :: starEach es X.env) (hpl : (backTo pos (starEach es X.env)).any (·.1) = false) : PE X (.Call (.Name x p) (e :: es) [] pos) (tLamC (wdOf X T kf) n F ia fb ta) := by
  obtain ⟨g, fd, ps, hm, hkp, hb, FO⟩ := D1.ex
  refine ⟨fun pins s σ H Q I h => ?_⟩
  refine wpAny_Call_Name_kw (ld_glob I hg hm ?_ hdb)
  refine PySem.W.callWith_K (h₀ := X.base) I.ok.mod.kin hkp (thn (ha.run pos pins s σ H _ I h) fun us s1 ⟨vs, us1, Hp0, f, d, pm, ctv, H1, e1, rv, hS, M⟩ => ⟨M.inv.kIn, ?_⟩) he hpl
  subst e1
  obtain ⟨H0, HF0, HF, ρ, ds, dz, R, hrp, hl, hF, hQ⟩ := hS
  have hfree := L.has M.inv.ok
  have fz1 : Fz T Hp0 HF HF H1 := ⟨fun b u e => M.ext b u (R.fz.sub b u e) (fun ps z => R.fz.nt b ps (by rw [← z]; exact e)), M.ext, M.dom, Same.refl HF, fun b u e n => (by rw [e] at n; cases n), M.tab, R.fz.nt⟩
  have R1 := R.grow fz1
  have fl := fn_lam M hq R1 L hia hnd (fun u => hbind _ _ _ _ _ u) hk (fun A outer s2 H2 hr2 => hbody A outer s2 H2 f d hr2) hden
  have unt : ∀ b o, (lamPl X q params body scope f d pm ctv s1.heap).lookup b = some o → H1 b = none := fun b o e => (lamPl_ok M hfree e).1
  have pf : PinF (lamPl X q params body scope f d pm ctv s1.heap) H1 s1.heap := fun b o e => ⟨(lamPl_ok M hfree e).1, (lamPl_ok M hfree e).2.1⟩
  have e0 := M.inv.env0
  have outS : ∀ {b : Addr}, H1 b = none → (X.base.get? b ≠ none ∨ b ∈ frs X.stack) → addP (lamPl X q params body scope f d pm ctv s1.heap) H1 b = none := fun {b} n z => by
    cases y : (lamPl X q params body scope f d pm ctv s1.heap).lookup b with
    | none => rw [addP_out y]; exact n
    | some o =>
      exfalso
      obtain ⟨_, _, y⟩ := lamPl_ok M hfree y
      rcases y with y | ⟨v, y⟩
      · rw [y] at z
        rcases z with z | z
        · exact z M.nbase
        · exact M.nfr z
      · have low := M.inv.ok.cab v b (hfn v) y
        rcases z with z | z
        · cases w : X.base.get? b with
          | none => exact z w
          | some o2 => exact absurd (Heap.lt_size (M.inv.ok.bs b o2 w).1) (Nat.not_lt_of_le low)
        · rcases List.mem_cons.mp (M.inv.stkSub b z) with w | w
          · exact M.inv.cne v b y w
          · obtain ⟨_, o2, ho, _⟩ := M.inv.ok.funs.mem w
            exact absurd (Heap.lt_size ho) (Nat.not_lt_of_le low)
  have e1 : Env0 X.prog X.w X.K X.mg X.base X.A X.stack s1 (addP (lamPl X q params body scope f d pm ctv s1.heap) H1) :=
    ⟨e0.frames, e0.mod, fun b o e => ⟨(e0.bs b o e).1, outS (e0.bs b o e).2 (.inl (by rw [e]; exact fun z => by cases z))⟩, e0.bsz, e0.funs, fun b hb => outS (e0.frf b hb) (.inr hb), hok_add e0.hok pf, e0.bare⟩
  have gd : Gd (wdOf X T kf) (addC (lamPl X q params body scope f d pm ctv s1.heap) d q HF) (addP (lamPl X q params body scope f d pm ctv s1.heap) H1) := by
    refine ⟨addC_sub unt M.code fz1.sub, tabs_add M.tab unt, fun b ps z => ?_⟩
    unfold addC at z
    by_cases hb : b = d
    · rw [if_pos hb] at z
      exact LamX.codeO_ne ps (Option.some.inj z)
    · rw [if_neg hb] at z
      cases y : (lamPl X q params body scope f d pm ctv s1.heap).lookup b with
      | some o => rw [addP_in y] at z; cases z
      | none => rw [addP_out y] at z; exact R.fz.nt b ps z
  have hlen : (us1 ++ [Value.ref f]).length = ps.length := by
    have z := FO.len (vs ++ [V.ref f]) (addP (lamPl X q params body scope f d pm ctv s1.heap) H1) (fun _ _ => True) E0 ⟨by rw [List.length_append, hrp.length, hl]; rfl, addC (lamPl X q params body scope f d pm ctv s1.heap) d q HF, ds, lamG ia ρ fb, vs, .ref f, dz, rfl, gd, RpL.mono (addC_same unt M.code fz1.sub) hrp, fl, hF, fun _ _ _ _ _ => trivial⟩
    rw [← z, List.length_append, List.length_append, rv.length]
    rfl
  have rc := FO.run X.A X.stack s1 (addP (lamPl X q params body scope f d pm ctv s1.heap) H1) ⟨us1 ++ [Value.ref f], []⟩ (us1 ++ [Value.ref f]) (vs ++ [V.ref f])
    (fun v H2 => ∃ HF2, Fz T (addP (lamPl X q params body scope f d pm ctv s1.heap) H1) (addC (lamPl X q params body scope f d pm ctv s1.heap) d q HF) HF2 H2 ∧ Rp X.K HF2 v dz) E0 hr e1
    (by
      have z := hb s1 (us1 ++ [Value.ref f]) M.inv.kIn (by rw [List.append_nil]; exact hlen)
      rw [List.append_nil] at z
      exact z) (Vals.append rv (.cons rfl .nil))
    ⟨by rw [List.length_append, hrp.length, hl]; rfl, _, ds, lamG ia ρ fb, vs, .ref f, dz, rfl, gd, RpL.mono (addC_same unt M.code fz1.sub) hrp, fl, hF, fun v H' HF' f1 r1 => ⟨HF', f1, r1⟩⟩
  refine wpAny_call (codeAny_mono rc fun r s2 hq2 => ?_)
  cases r with
  | error e => exact (show False from hq2).elim
  | ok fl =>
    cases fl with
    | ret u =>
      obtain ⟨v, H2, os, bare, un, hok, rvu, HF2, fz2, rp2⟩ := (show CE _ _ _ _ _ _ _ _ from hq2)
      obtain ⟨z1, z2⟩ := fz_out unt M.code fz1.sub fz2
      exact M.inv.after ⟨v, delP (lamPl X q params body scope f d pm ctv s1.heap) H2, os, bare, un_out un pf hok, hok_del hok (un_pins un), rvu, hQ v _ _ (fz1.trans z1) (Rp.seen z2 rp2)⟩
    | next => exact False.elim hq2
    | brk => exact False.elim hq2
    | cont => exact False.elim hq2
end
end Qd
end
section
set_option Elab.async false
set_option linter.all false
set_option autoImplicit false
set_option maxRecDepth 100000
set_option maxHeartbeats 2000000
/-! Q18: the rules for lambdas in the bundled judgements; defs that make lambdas. -/
namespace Qd
open PySem
open PySem.Spec
open PyProof.Rows
open L2
open LamX (ExtN Tabs TabS CodeO TabB)

def BAl (C : Ct) (params : Arguments) (body : Expr) (scope : Scope) (es : List Expr) (f : Nv → Option (List D)) : Prop := ∃ t, DA C.W t f ∧ ∀ X (c P : Addr) (q : Str), GoodX C X → C.ml = some (c, P, q) → PAL X C.W.T q params body scope es t
section
variable {C : Ct} {a : Expr} {fa fb : Nv → Option D} {pos lpos : Pos} {es : List Expr} {fs : Nv → Option (List D)} {x y : Str} {p : Pos} {params : Arguments} {body : Expr} {scope : Scope}
theorem al0 (z : Str) (hL : lamPB C.sc scope z = true) (hdef : ∀ X : Cx, defaultsOf params X.env = ([], []) := by intro _; rfl) : BAl C params body scope [.Lambda params body scope lpos] nilA :=
  ⟨_, da_lam0, fun X c P q h hm => by
    obtain ⟨h1, h2, h3, h4, h5, h6⟩ := h.lam c P q hm
    obtain ⟨T, kf, e⟩ := h.w
    rw [e] at h4 h5 h6 ⊢
    exact pal_lam h6 h1 h2 h4 h5 (hdef X) (fun ok => (lamP_by (sc := X.env.scope) (a := z) (by rw [h.hsc]; exact hL)).has ok)⟩
theorem alcons (ha : BE C a fa) (hs : BAl C params body scope es fs) (hst : ∀ X : Cx, starEach (a :: es) X.env = (false, eval a X.env) :: starEach es X.env := by intro _; rfl) : BAl C params body scope (a :: es) (consA fa fs) := by
  obtain ⟨ta, a1, a2⟩ := ha
  obtain ⟨ts, s1, s2⟩ := hs
  exact ⟨_, da_cons a1 s1, fun X c P q h hm => pal_cons (a2 X h) (s2 X c P q h hm) (hst X)⟩
theorem good_lam {X : Cx} {k : Nat} {L : List Nat} {gs : List Str} (h : GoodX C X) (ck : ckB C.N scope scope L [] gs = true) {A : Around} {outer : List PySem.Env} {s2 : Shared} {H2 : Hp} {f d : Addr} (hr : Room k (A.deeper (LamX.lamEnv X scope s2.heap.objs.size f d))) :
    GoodX ⟨C.W, k, scope, C.N, L, [], gs, none⟩ (LamX.lamCx X A outer s2 H2 E0 scope f d).nox := by
  obtain ⟨c1, c2, c3⟩ := ckB_ok ck
  obtain ⟨T, kf, e⟩ := h.w
  exact ⟨⟨T, kf, e⟩, h.hN, h.nd, hr, rfl, PassesOwn.never, rfl, c1, fun i hi => absurd hi (by simp), c3, h.bn, fun _ _ _ z => by cases z⟩
theorem blam {k n kl : Nat} {F : Fu → List D → Option D} (j ia : Nat) (z : Str) (L : List Nat) (gs : List Str) (m : (C.ml).isSome = true) (d : DfG C.W k x n F) (hF : ∀ G ds d, F G ds = some d → ds.length = n) (hk : k ≤ C.k) (hj : C.gs[j]? = some x) (hia : C.N[ia]? = some z) (hL : lamPB C.sc scope z = true)
    (ha : BAl C params body scope (a :: es) fs) (ck : ckB C.N scope scope L [] gs = true) (hb : BE ⟨C.W, kl, scope, C.N, L, [], gs, none⟩ body fb) (hkf : kl + 1 ≤ C.W.kf)
    (hbind : ∀ (q : Str) (cl : List (Str × Addr)) (pm cv ctv u : Value), bindArgs (PySem.W.kla_fn "<lambda>" q params body scope cl pm cv ctv) ⟨[u], []⟩ = pure [(z, u)] := by intros; rfl)
    (he : ∀ X : Cx, starEach (a :: es) X.env = (false, eval a X.env) :: starEach es X.env := by intro _; rfl) (hpl : ∀ X : Cx, (backTo pos (starEach es X.env)).any (·.1) = false := by intro _; rfl) : BE C (.Call (.Name x p) (a :: es) [] pos) (lamV fs F ia fb) := by
  obtain ⟨ts, s1, s2⟩ := ha
  obtain ⟨tb', b1', b2'⟩ := hb
  refine ⟨_, de_lamC s1 hF, fun X h => ?_⟩
  obtain ⟨r, hr⟩ := Option.isSome_iff_exists.mp m
  obtain ⟨c, P, q⟩ := r
  obtain ⟨h1, h2, h3, h4, h5, h6⟩ := h.lam c P q hr
  have pl := s2 X c P q h hr
  have bd : ∀ (A : Around) (outer : List PySem.Env) (s2 : Shared) (H2 : Hp) (f d : Addr), Room kl (A.deeper (LamX.lamEnv X scope s2.heap.objs.size f d)) → PE (LamX.lamCx X A outer s2 H2 E0 scope f d).nox body tb' := fun A outer s2 H2 f d hr => b2' _ (good_lam h ck hr)
  obtain ⟨T, kf, e⟩ := h.w
  rw [e] at d pl hkf ⊢
  have b1' : DE C.W tb' fb := b1'
  rw [e] at b1'
  exact pe_lamC (d.mono hk) h.room (h.Gl hj) h3 pl h2 (lamP_by (by rw [h.hsc]; exact hL)) (h.Nx hia) h.ndX hkf hbind bd b1' (h.gl j x hj).2 (he X) (hpl X)
end
/-- the text's def x, which makes lambdas: its code object at c, the table at P -/
structure AtM (W : Wd) (x nm : Str) (st : Stmt) (c P : Addr) (q : Str) : Prop where
  ex : ∃ f fd, FunD W.K nm nm (defArgs st) (defBody st) (defScope st) [] [] f fd ∧ W.mg x = some (.ref f) ∧ fd.code = .ref c
  mem : (P, q) ∈ W.T
  uq : ∀ p ∈ W.T, p.1 = P → p.2 = q
  tb : TabB W.base W.mg c P
theorem df_ofM {W : Wd} {x nm q : Str} {st : Stmt} {c P : Addr} {N ps gs : List Str} {n m k : Nat} {L : List Nat} {g : Gs} (bn : ∀ x ∈ blts, W.mg x = none) (a : AtM W x nm st c P q) (hq : (nm ++ ".<locals>." : Str) ++ "<lambda>" = q) (ck : ckF (defScope st) N ps L gs = true) (hn : ps.length = n) (hN : N.length = m) (hle : n ≤ m)
    (hb : ∀ (kV doc pm : Value) (an : Option Addr) (cdv ct : Value) (us : List Value), us.length = ps.length → bindArgs (PySem.W.fnOf nm nm (defArgs st) (defBody st) (defScope st) .none kV doc pm an cdv ct) ⟨us, []⟩ = pure (ps.zip us))
    (body : BSs ⟨W, k, defScope st, N, L, L, gs, some (c, P, q)⟩ (defBody st) g) : Df W (k + 1) x n (runS n m g) := by
  obtain ⟨S, c1, c2, c3⟩ := ckF_ok ck
  obtain ⟨t, t1, t2⟩ := body
  obtain ⟨f, fd, F, hm, hc⟩ := a.ex
  refine ⟨f, fd, ps, hm, F.kp, FunD.bindsN F hb, ?_⟩
  obtain ⟨oc, od, dV, kV, doc, pm, an, cdv, ct, osl, rfl, lk, hcd, _, _⟩ := F.ex
  have hc : cdv = .ref c := hc
  subst hc
  refine fn_of lk hcd S (fun vs H Q E h => by rw [hn]; exact h.1) fun A outer s H vs Q E hr h => ?_
  refine ⟨t, (t2 (bodyCx W N nm st f (.ref c) A outer s H E) ?_).nox, ds_run t1 hN hle h⟩
  refine ⟨⟨W.T, W.kf, rfl⟩, rfl, S.nd, hr, rfl, PassesOwn.never, rfl, c1, fun i hi x e => ⟨c2 i hi x e, .inl rfl⟩, c3, bn, fun c' P' q' z => ?_⟩
  have z : some (c, P, q) = some (c', P', q') := z
  cases z
  exact ⟨rfl, hq, fun _ => rfl, a.mem, a.uq, a.tb⟩
end Qd
end
section
set_option Elab.async false
set_option linter.all false
set_option autoImplicit false
set_option maxRecDepth 100000
set_option maxHeartbeats 2000000
/-! Q19: the table of takers looked up and its def called (holds). -/
namespace Qd
open PySem
open PySem.Spec
open PyProof.Rows
open L2
open LamX (ExtN Tabs TabS CodeO TabB)

structure KEnt where
  word : Str
  m : Int
  F : List D → Option D
structure KEntOk (W : Wd) (k : Nat) (kd : Addr) (p : KEnt) (tp f : Addr) (fd : FuncData) (ps : List Str) : Prop where
  get : PySem.W.nsIn W.K kd p.word = some (some (.ref tp))
  tup : ∀ H, SqT W.K H tp [.ref f, .int p.m]
  kp : PySem.W.keepIn W.K (.ref f) = true
  bd : Binds W.K fd ps []
  fn : FnOk W.prog W.w W.K W.mg W.base CX0 k f fd ps (SpF W 2 p.F)
structure KindsOk (W : Wd) (k : Nat) (kd : Addr) (tab : List KEnt) : Prop where
  mg : W.mg "KINDS" = some (.ref kd)
  dict : ∃ es n, KDict W.K W.w kd es n
  ent : ∀ p ∈ tab, ∃ tp f fd ps, KEntOk W k kd p tp f fd ps
theorem Rel.put {W : Wd} {H0 HF0 : Hp} {σ : Sg} {H HF : Hp} {ρ : Nv} (R : Rel W H0 HF0 σ H HF ρ) (i : Nat) (x : Option V) : Rel W H0 HF0 (σ.set i x) H HF (ρ.set i none) := by
  have old : ∀ {j : Nat} {e : En}, (ρ.set i none)[j]? = some (some e) → i ≠ j ∧ ρ[j]? = some (some e) := fun {j e} h => by
    by_cases z : i = j
    · subst z
      by_cases hl : i < ρ.length
      · rw [List.getElem?_set_self hl] at h
        cases h
      · rw [List.getElem?_eq_none (by simpa using hl)] at h
        cases h
    · rw [List.getElem?_set_ne z] at h
      exact ⟨z, h⟩
  refine ⟨R.fz, by rw [List.length_set, List.length_set]; exact R.len, fun j e h => ?_, fun j k e e' a hjk h1 h2 m1 m2 => ?_⟩
  · obtain ⟨hn, h⟩ := old h
    rw [List.getElem?_set_ne hn]
    exact R.at_ j e h
  · obtain ⟨n1, h1⟩ := old h1
    obtain ⟨n2, h2⟩ := old h2
    rw [List.getElem?_set_ne n1, List.getElem?_set_ne n2]
    exact R.sep j k e e' a hjk h1 h2 m1 m2
/-- word not in the table: asked of the table's words alone -/
def kNotIn (tab : List KEnt) (f : Nv → Option D) (ρ : Nv) : Option D := (f ρ).bind fun d => match d with
  | .str w => if (tab.any fun p => decide (p.word = w)) = true then some (.bool false) else none
  | _ => none
def tTab (W : Wd) (tab : List KEnt) (k : Nat) (kd : Addr) (i : Nat) (t : TA) : TE := fun σ H Q => ∃ p ∈ tab, ∃ tp f fd ps, KEntOk W k kd p tp f fd ps ∧ σ[i]? = some (some (.ref f)) ∧ t σ H fun vs H1 => SpF W 2 p.F vs H1 Q E0
theorem pe_tab {X : Cx} {T : List (Addr × Str)} {kf k i : Nat} {kd : Addr} {tab : List KEnt} {x : Str} {p pos : Pos} {e : Expr} {es : List Expr} {t : TA} (hr : Room k X.A) (hN : X.N[i]? = some x) (hv : Vis X.env.scope x) (ha : PA X (e :: es) t) (hdb : (x == ("__debug__" : Str)) = false) (hcd : (x == ("__classdict__" : Str)) = false)
    (he : starEach (e :: es) X.env = (false, eval e X.env) :: starEach es X.env) (hpl : (backTo pos (starEach es X.env)).any (·.1) = false) : PE X (.Call (.Name x p) (e :: es) [] pos) (tTab (wdOf X T kf) tab k kd i t) := by
  refine ⟨fun pins s σ H Q I h => ?_⟩
  obtain ⟨q, hq, tp, f, fd, ps, K, hs, ht⟩ := h
  refine (pe_callL (i := i) (f := f) (sp := SpF (wdOf X T kf) 2 q.F) (dvs := []) (E := E0) K.fn hr hN hv K.kp K.bd .nil pass0 ha hdb hcd he hpl).run pins s σ H Q I ⟨hs, ?_⟩
  have e0 : (fun (vs : List V) (H1 : Hp) => SpF (wdOf X T kf) 2 q.F (vs ++ []) H1 Q E0) = fun vs H1 => SpF (wdOf X T kf) 2 q.F vs H1 Q E0 := by
    funext vs H1
    rw [List.append_nil]
  rw [e0]
  exact ht
/-- the two last statements of the dispatch -/
def holdsT (tab : List KEnt) (i j : Nat) (fc fm : Nv → Option D) (fs : Nv → Option (List D)) (ρ : Nv) : Option Out := (fc ρ).bind fun d => match d with
  | .str w => (tab.find? fun p => decide (p.word = w)).bind fun p => if i < ρ.length then (andV fm (c1 fs p.F) ((ρ.set i none).set j (some (.dat (.int p.m))))).map .rt else none
  | _ => none
section
variable {C : Ct} {tab : List KEnt} {kd : Addr} {k : Nat}
theorem tkNotIn {a : Expr} {fa : Nv → Option D} {p pos : Pos} (KO : KindsOk C.W k kd tab) (j : Nat) (hj : C.gs[j]? = some "KINDS") (ha : BE C a fa) (hm : behindInMarks .NotIn (.Name "KINDS" p) = false := by with_unfolding_all rfl) : BT C (.Compare a [.NotIn] [.Name "KINDS" p] pos) (tb (kNotIn tab fa)) := by
  obtain ⟨ta, a1, a2⟩ := ha
  obtain ⟨es, n, D1⟩ := KO.dict
  refine ⟨tTest (tOp (fun x y H Q => ∃ (z : Str) (r : Option Value), x = .str z ∧ y = .ref kd ∧ PySem.W.nsIn C.W.K kd z = some r ∧ Q (.bl (!r.isSome)) H) ta (tC (.ref kd))), dt_test fun H0 HF0 σ H HF ρ d Q R e q => ?_, fun X h => ?_⟩
  · obtain ⟨w, e1, e2⟩ := Option.bind_eq_some_iff.mp e
    cases w <;> first | (cases e2; done) | skip
    rename_i w
    have e2 : (if (tab.any fun p => decide (p.word = w)) = true then some (PyData.bool false) else none) = some d := e2
    by_cases hc : (tab.any fun p => decide (p.word = w)) = true
    · rw [if_pos hc] at e2
      cases e2
      obtain ⟨p, hp, hw⟩ := List.any_eq_true.mp hc
      have hw : p.word = w := of_decide_eq_true hw
      refine a1 H0 HF0 σ H HF ρ _ _ R e1 fun v H1 HF1 f1 r1 => ?_
      obtain ⟨tp, f, fd, ps, K⟩ := KO.ent p hp
      exact ⟨w, some (.ref tp), r1.str_inv, rfl, by rw [← hw]; exact K.get, q _ H1 HF1 f1 (.bl _)⟩
    · rw [if_neg hc] at e2
      cases e2
  · have hmg := KO.mg
    obtain ⟨T, kf, e⟩ := h.w
    rw [h.K]
    rw [e] at D1 hmg
    exact pt_cmpR (op_notIn_kd D1) (a2 X h) (pe_glob (h.Gl hj) hmg rfl (h.gl j _ hj).2) hm
theorem ss_holds {c0 cm : Expr} {fc fm : Nv → Option D} {fs : Nv → Option (List D)} {e : Expr} {es : List Expr} {x y : Str} {px py pk pt p1 p2 p3 p4 p5 p6 : Pos} {kt : Nat} (KO : KindsOk C.W k kd tab) (hk : k ≤ C.k) (j : Nat) (hj : C.gs[j]? = some "KINDS") (ix iy : Nat) (hix : C.N[ix]? = some x) (hiy : C.N[iy]? = some y) (mx : ix ∈ C.M) (my : iy ∈ C.M) (mx2 : ix ∈ C.L) (hne : ix ≠ iy)
    (hc : BE C c0 fc) (hm : BE C cm fm) (ha : BA C (e :: es) fs) (hF : ∀ p ∈ tab, ∀ ds d, p.F ds = some d → ds.length = 2)
    (hpi : PlainIx c0 := by intro _ _; rfl)
    (h1 : ∀ X : Cx, (assignEach [.Name y py] X.env).map (·.2) = assign (.Name y py) X.env :: (assignEach [] X.env).map (·.2) := by intro _; rfl)
    (h2 : ∀ X : Cx, (assignEach [.Name x px, .Name y py] X.env).map (·.2) = assign (.Name x px) X.env :: (assignEach [.Name y py] X.env).map (·.2) := by intro _; rfl)
    (h3 : ∀ X : Cx, (assignEach [.Name x px, .Name y py] X.env).length = 2 := by intro _; rfl) (h4 : ∀ X : Cx, (assignEach [.Name x px, .Name y py] X.env).findIdx? (·.1) = none := by intro _; rfl)
    (h5 : ∀ X : Cx, swapsWithSole [.Tuple [.Name x px, .Name y py] kt pt] (.Subscript (.Name "KINDS" pk) c0 p1) p2.line X.env = pure false := by intro _; rfl) (h6 : ∀ X : Cx, swappedStores [.Tuple [.Name x px, .Name y py] kt pt] (.Subscript (.Name "KINDS" pk) c0 p1) X.env = pure none := by intro _; rfl)
    (h7 : ∀ X : Cx, (assignEach [.Tuple [.Name x px, .Name y py] kt pt] X.env).map (·.2) = [assign (.Tuple [.Name x px, .Name y py] kt pt) X.env] := by intro _; rfl)
    (he : ∀ X : Cx, starEach (e :: es) X.env = (false, eval e X.env) :: starEach es X.env := by intro _; rfl) (hpl : ∀ X : Cx, (backTo p6 (starEach es X.env)).any (·.1) = false := by intro _; rfl) :
    BSs C [.Assign [.Tuple [.Name x px, .Name y py] kt pt] (.Subscript (.Name "KINDS" pk) c0 p1) p2, .Return (some (.BoolOp .And [cm, .Call (.Name x p5) (e :: es) [] p6] p4)) p3] (holdsT tab ix iy fc fm fs) := by
  obtain ⟨tc, c1, c2⟩ := hc
  obtain ⟨tm, m1, m2⟩ := hm
  obtain ⟨ts, s1, s2⟩ := ha
  refine ⟨tSeq (tAsg (tOp (rIxD C.W.K C.W.w) (tC (.ref kd)) tc) (gTup C.W.K 2 (gCons (gName ix) (gCons (gName iy) gNil)))) (tRet (tAndV tm (tTab C.W tab k kd ix ts))), fun H0 HF0 σ H HF ρ o Dn R e q => ?_, fun X h => ?_⟩
  · obtain ⟨d, e1, e2⟩ := Option.bind_eq_some_iff.mp e
    cases d <;> first | (cases e2; done) | skip
    rename_i w
    obtain ⟨p, e3, e4⟩ := Option.bind_eq_some_iff.mp (show (tab.find? fun p => decide (p.word = w)).bind _ = some o from e2)
    have hp := List.mem_of_find?_eq_some e3
    have hw : p.word = w := of_decide_eq_true (List.find?_some (p := fun p : KEnt => decide (p.word = w)) e3)
    have e4 : (if ix < ρ.length then (andV fm (Qd.c1 fs p.F) ((ρ.set ix none).set iy (some (.dat (.int p.m))))).map Out.rt else none) = some o := e4
    by_cases hlt : ix < ρ.length
    case neg =>
      rw [if_neg hlt] at e4
      cases e4
    rw [if_pos hlt] at e4
    obtain ⟨d, e5, rfl⟩ := Option.map_eq_some_iff.mp e4
    obtain ⟨cb, e6, e7⟩ := Option.bind_eq_some_iff.mp e5
    obtain ⟨tp, f, fd, ps, K⟩ := KO.ent p hp
    obtain ⟨es, n, D1⟩ := KO.dict
    refine c1 H0 HF0 σ H HF ρ _ _ R e1 fun v H1 HF1 f1 r1 => ?_
    refine ⟨kd, w, .ref tp, rfl, r1.str_inv, ⟨es, n, .ref tp, D1.at_, D1.lit, by rw [← hw]; exact K.get, rfl⟩, ?_⟩
    refine ⟨tp, [.ref f, .int p.m], rfl, K.tup H1, rfl, .ref f, [.int p.m], rfl, .int p.m, [], rfl, rfl, ?_⟩
    have R1 := R.grow f1
    have R2 : Rel C.W H0 HF0 ((σ.set ix (some (.ref f))).set iy (some (.int p.m))) H1 HF1 ((ρ.set ix none).set iy (some (.dat (.int p.m)))) := Rel.set (e := .dat (.int p.m)) (R1.put ix (some (.ref f))) (show Rp C.W.K HF1 (.int p.m) (.int p.m) from .int _) rfl
    have lx : ix < σ.length := by rw [← R.len]; exact hlt
    refine m1 H0 HF0 _ H1 HF1 _ _ _ R2 (tb_some e6) fun v2 H2 HF2 f2 r2 => ⟨cb, r2.bl_inv, ?_⟩
    cases cb with
    | false =>
      cases e7
      exact q _ H2 HF2 ((R1.fz).trans f2) (.bl _)
    | true =>
      obtain ⟨ds, e8, e9⟩ := Option.bind_eq_some_iff.mp (show (fs ((ρ.set ix none).set iy (some (.dat (.int p.m))))).bind p.F = some d from e7)
      refine ⟨p, hp, tp, f, fd, ps, K, by rw [List.getElem?_set_ne (Ne.symm hne), List.getElem?_set_self lx], ?_⟩
      refine s1 H0 HF0 _ H2 HF2 _ ds _ (R2.grow f2) e8 fun vs H3 HF3 f3 r3 => ?_
      exact ⟨by rw [r3.length, hF p hp ds d e9], HF3, ds, d, f3.gd, r3, e9, fun v H4 HF4 f4 r4 => q v H4 HF4 (((R1.fz).trans f2).trans (f3.trans f4)) r4⟩
  · have hmg := KO.mg
    obtain ⟨T, kf, e⟩ := h.w
    rw [e]
    rw [e] at hmg
    exact pss_cons (ps_asg (pe_ix ix_kdict (pe_glob (h.Gl hj) hmg rfl (h.gl j _ hj).2) (c2 X h) hpi) (pg_tup h.calm (pgs_cons (pg_name h.ndX (h.Nx hix) (h.Lx mx hix) (h.Fx mx hix)) (pgs_cons (pg_name h.ndX (h.Nx hiy) (h.Lx my hiy) (h.Fx my hiy)) pgs_nil (h1 X)) (h2 X)) (h3 X) (h4 X)) (h5 X) (h6 X) (h7 X))
      (pss_one (ps_ret (pe_and (m2 X h) (pe_one (pe_tab (h.room.mono hk) (h.Nx hix) (h.Vx mx2 hix) (s2 X h) (h.vis ix mx2 x hix).2.1 (h.vis ix mx2 x hix).2.2 (he X) (hpl X))))))
end
end Qd
end
section
set_option Elab.async false
set_option linter.all false
set_option autoImplicit false
set_option maxRecDepth 100000
set_option maxHeartbeats 2000000
/-! Q20: what the text's top leaves. -/
namespace Qd
open PySem
open PySem.Spec
open PyProof.Rows
open L2
open LamX (ExtN Tabs TabS CodeO TabB)

/-- the taking of a claim: its word, its taker, its parts -/
structure KIs (W : Wd) (kd : Addr) : Prop where
  mg : W.mg "KINDS" = some (.ref kd)
  dict : ∃ es n, KDict W.K W.w kd es n
  ent : ∀ p ∈ kt, ∃ tp f, PySem.W.nsIn W.K kd p.1 = some (some (.ref tp)) ∧ (∀ H, SqT W.K H tp [.ref f, .int p.2.2]) ∧ W.mg p.2.1 = some (.ref f)
structure WOk (W : Wd) : Prop where
  bn : ∀ x ∈ blts, W.mg x = none
  fns : ∀ p ∈ tab, At W p.1 p.2.1 (topS p.2.2)
  i_MOST_THINGS_forests : ∃ t, W.mg "MOST_THINGS_forests" = some (.int 40 t)
  i_MOST_THINGS_stores : ∃ t, W.mg "MOST_THINGS_stores" = some (.int 40 t)
  i_MOST_REST : ∃ t, W.mg "MOST_REST" = some (.int 1000 t)
  i_MOST_SPOTS : ∃ t, W.mg "MOST_SPOTS" = some (.int 40 t)
  s_SHORTS : ∃ d, W.mg "SHORTS" = some (.ref d) ∧ ∀ H, SqT W.K H d (strs_SHORTS.map V.str)
  s_JOINS : ∃ d, W.mg "JOINS" = some (.ref d) ∧ ∀ H, SqT W.K H d (strs_JOINS.map V.str)
  kinds : ∃ kd, KIs W kd
  kf : W.kf = 8
  m_run : ∃ c P, AtM W "run" "run" (topS 39) c P "run.<locals>.<lambda>"
  m_open_road : ∃ c P, AtM W "open_road" "open_road" (topS 108) c P "open_road.<locals>.<lambda>"
  m_wall : ∃ c P, AtM W "wall" "wall" (topS 109) c P "wall.<locals>.<lambda>"
  m_seeps : ∃ c P, AtM W "seeps" "seeps" (topS 110) c P "seeps.<locals>.<lambda>"
theorem kfl {W : Wd} (w : WOk W) {n : Nat} (h : Nat.ble 8 n = true) : W.kf ≤ n := by rw [w.kf]; exact Nat.le_of_ble_eq_true h
theorem kfg {W : Wd} (w : WOk W) {n : Nat} (h : Nat.ble n 8 = true) : n ≤ W.kf := by rw [w.kf]; exact Nat.le_of_ble_eq_true h
theorem mk_ {p : Str × Str × Int} (i : Nat) (h : kt[i]? = some p) : p ∈ kt := List.mem_of_getElem? h
theorem kent {W : Wd} {kd : Addr} {word taker : Str} {m : Int} {F : List D → Option D} {j k : Nat} (K : KIs W kd) (h : (word, taker, m) ∈ kt) (d : Df W j taker 2 F) (hk : j ≤ k) : ∃ tp f fd ps, KEntOk W k kd ⟨word, m, F⟩ tp f fd ps := by
  obtain ⟨tp, f, h1, h2, h3⟩ := K.ent _ h
  obtain ⟨f', fd, ps, g1, g2, g3, g4⟩ := (d.mono hk).ex
  have h3 : W.mg taker = some (.ref f) := h3
  rw [h3] at g1
  cases g1
  exact ⟨tp, f, fd, ps, h1, h2, g2, g3, g4⟩
theorem len_odiA {i : Nat} (ρ : Nv) (ds : List D) (h : odiA i ρ = some ds) : ds.length = 1 := by
  obtain ⟨kv, _, rfl⟩ := Option.map_eq_some_iff.mp h
  rfl
theorem len_consA {f : Nv → Option D} {g : Nv → Option (List D)} {n : Nat} (hg : ∀ ρ ds, g ρ = some ds → ds.length = n) (ρ : Nv) (ds : List D) (h : consA f g ρ = some ds) : ds.length = n + 1 := by
  obtain ⟨x, _, h2⟩ := Option.bind_eq_some_iff.mp h
  obtain ⟨r, h3, h4⟩ := Option.bind_eq_some_iff.mp h2
  cases h4
  rw [List.length_cons, hg ρ r h3]
end Qd
end
section
set_option Elab.async false
set_option linter.all false
set_option autoImplicit false
set_option maxRecDepth 100000
set_option maxHeartbeats 4000000
namespace Qd
open PySem
open PySem.Spec
open PyProof.Rows
open L2
variable {W : Wd}
def d_is_thing : Gs := (retS (andV (b1 (gD 1) (oIsi "int")) (andV (notV (b1 (gD 1) (oIsi "bool"))) (chV (fun _ => some (.int 0)) (gD 1) (gD 0) (oB fun i j => decide (i ≤ j)) (oB fun i j => decide (i < j))))))
def F_is_thing : List D → Option D := runS 2 2 d_is_thing
theorem body_is_thing (w : WOk W) : BSs ⟨W, 0, defScope (topS 10), ["many", "x"], [0, 1], [0, 1], ["isinstance", "int", "bool"], none⟩ (defBody (topS 10)) d_is_thing :=
  (sone (sret (band (bisi (T' := "int") 0 rfl 1 rfl (bv 1 rfl (mm rfl)) (by decide) rfl (by decide)) (band (bnot (bisi (T' := "bool") 0 rfl 2 rfl (bv 1 rfl (mm rfl)) (by decide) rfl (by decide))) (bone (bch bLe bLt bi (bv 1 rfl (mm rfl)) (bv 0 rfl (mm rfl))))))))
theorem df_is_thing (w : WOk W) : Df W 1 "is_thing" 2 F_is_thing := df_of (N := ["many", "x"]) (ps := ["many", "x"]) w.bn (w.fns _ (mf 0 rfl)) (by decide +kernel) rfl rfl (by decide) (fun _ _ _ _ _ _ us hl => match us, hl with | [_, _], _ => rfl) (body_is_thing w)
def d_ends_at : Gs := (seqS (ownS 2 (lstV (consA (gD 1) nilA))) (seqS (whS (tb (inO true (b2 (gD 0) (ixO 2 (b1 (fun _ => some (.int 1)) oNeg)) oIx) 2)) (appS 2 (b2 (gD 0) (ixO 2 (b1 (fun _ => some (.int 1)) oNeg)) oIx)) 60) (frzS 2 (retS (gD 2)))))
def F_ends_at : List D → Option D := runS 2 3 d_ends_at
theorem body_ends_at (w : WOk W) : BSs ⟨W, 0, defScope (topS 11), ["ups", "x", "way"], [0, 1, 2], [0, 1, 2], [], none⟩ (defBody (topS 11)) d_ends_at :=
  (scons (sown (aN 2 rfl (mm rfl) (nlst (acons (bv 1 rfl (mm rfl)) anil)))) (scons (swh 60 (tNinO 2 rfl (mm rfl) (bix (bv 0 rfl (mm rfl)) (oIxO 2 rfl (mm rfl) (bneg bi)))) (sone (sapp 2 rfl (mm rfl) (bix (bv 0 rfl (mm rfl)) (oIxO 2 rfl (mm rfl) (bneg bi)))))) (sfrz 2 (sone (sret (bv 2 rfl (mm rfl)))))))
theorem df_ends_at (w : WOk W) : Df W 1 "ends_at" 2 F_ends_at := df_of (N := ["ups", "x", "way"]) (ps := ["ups", "x"]) w.bn (w.fns _ (mf 1 rfl)) (by decide +kernel) rfl rfl (by decide) (fun _ _ _ _ _ _ us hl => match us, hl with | [_, _], _ => rfl) (body_ends_at w)
def d_is_forest : Gs := (seqS (ifS (orT (notT (tb (b1 (gD 0) (oIsi "tuple")))) (notT (tb (chV (fun _ => some (.int 1)) (c1 (consA (gD 0) nilA) oLen) (fun _ => some (.int 40)) (oB fun i j => decide (i ≤ j)) (oB fun i j => decide (i ≤ j)))))) (retS (fun _ => some (.bool false))) nextS) (seqS (ifS (notT (tb (c1 (consA (lsV (lcV (itT (gD 0)) (setN 4) yesT (c1 (consA (c1 (consA (gD 0) nilA) oLen) (consA (gD 4) nilA)) F_is_thing) [4])) nilA) oAll))) (retS (fun _ => some (.bool false))) nextS) (seqS (asgS (lsV (lcV (itR1 (consA (c1 (consA (gD 0) nilA) oLen) nilA)) (setN 2) yesT (b2 (c1 (consA (gD 0) (consA (gD 2) nilA)) F_ends_at) (b1 (fun _ => some (.int 1)) oNeg) oIx) [2])) (setN 1)) (retS (c1 (consA (lsV (lcV (itL (gD 1)) (setN 3) yesT (b2 (b2 (gD 0) (gD 3) oIx) (gD 3) (oEqD false)) [3])) nilA) oAll)))))
def F_is_forest : List D → Option D := runS 1 5 d_is_forest
theorem body_is_forest (w : WOk W) : BSs ⟨W, 1, defScope (topS 12), ["thing", "lasts", "x", "last", "up"], [0, 1], [0, 1], ["isinstance", "tuple", "len", "MOST_THINGS_forests", "all", "range"], none⟩ (defBody (topS 12)) d_is_forest :=
  (scons (sif (tw (wor (tnot (tval (bisi (T' := "tuple") 0 rfl 1 rfl (bv 0 rfl (mm rfl)) (by decide) rfl (by decide)))) (wor1 (tnot (tch bLe bLe bi (blen0 2 (acons (bv 0 rfl (mm rfl)) anil) (fun _ => rfl) (fun _ => rfl) rfl) (bgi 3 rfl w.i_MOST_THINGS_forests)))))) (sone (sret bb)) snil) (scons (sif (tnot (tval (ball0 4 (acons (nle (nlc [("up", 4)] [4, 0] [4] ["is_thing", "len"] (iT (bv 0 rfl (mm rfl))) (by kernel_rfl) (by kernel_rfl) (gname 4 rfl (mm rfl)) tsnil (bcall 0 (df_is_thing w) runS_len (Nat.le_of_ble_eq_true rfl) rfl (acons (blen0 1 (acons (bv 0 rfl (mm rfl)) anil) (fun _ => rfl) (fun _ => rfl) rfl) (acons (bv 4 rfl (mm rfl)) anil))) (by decide))) anil) (fun _ => rfl) (fun _ => rfl) rfl))) (sone (sret bb)) snil) (scons (sdat (aLc 1 [("x", 2)] [2, 0] [2] ["ends_at"] rfl rfl rfl rfl (iR1 5 rfl (acons (blen0 2 (acons (bv 0 rfl (mm rfl)) anil) (fun _ => rfl) (fun _ => rfl) rfl) anil)) (by kernel_rfl) (by kernel_rfl) (gname 2 rfl (mm rfl)) tsnil (bix (bcall 0 (df_ends_at w) runS_len (Nat.le_of_ble_eq_true rfl) rfl (acons (bv 0 rfl (mm rfl)) (acons (bv 2 rfl (mm rfl)) anil))) (bneg bi)) (by decide))) (sone (sret (ball0 4 (acons (nle (nlc [("last", 3)] [3, 0] [3] [] (iL (bv 1 rfl (mm rfl))) (by kernel_rfl) (by kernel_rfl) (gname 3 rfl (mm rfl)) tsnil (bcm bEq (bix (bv 0 rfl (mm rfl)) (bv 3 rfl (mm rfl))) (bv 3 rfl (mm rfl))) (by decide))) anil) (fun _ => rfl) (fun _ => rfl) rfl))))))
theorem df_is_forest (w : WOk W) : Df W 2 "is_forest" 1 F_is_forest := df_of (N := ["thing", "lasts", "x", "last", "up"]) (ps := ["thing"]) w.bn (w.fns _ (mf 2 rfl)) (by decide +kernel) rfl rfl (by decide) (fun _ _ _ _ _ _ us hl => match us, hl with | [_], _ => rfl) (body_is_forest w)
def d_check_forest : Gs := (ifS (notT (tb (c1 (consA (gD 0) nilA) F_is_forest))) neverS nextS)
def F_check_forest : List D → Option D := runS 1 1 d_check_forest
theorem body_check_forest (w : WOk W) : BSs ⟨W, 2, defScope (topS 13), ["ups"], [0], [0], ["is_forest", "NoForest"], none⟩ (defBody (topS 13)) d_check_forest :=
  (sone (sif (tnot (tval (bcall 0 (df_is_forest w) runS_len (Nat.le_of_ble_eq_true rfl) rfl (acons (bv 0 rfl (mm rfl)) anil)))) ssnever snil))
theorem df_check_forest (w : WOk W) : Df W 3 "check_forest" 1 F_check_forest := df_of (N := ["ups"]) (ps := ["ups"]) w.bn (w.fns _ (mf 3 rfl)) (by decide +kernel) rfl rfl (by decide) (fun _ _ _ _ _ _ us hl => match us, hl with | [_], _ => rfl) (body_check_forest w)
def d_is_short : Gs := (retS (andV (b1 (gD 0) (oIsi "str")) (inG false (gD 0) strs_SHORTS)))
def F_is_short : List D → Option D := runS 1 1 d_is_short
theorem body_is_short (w : WOk W) : BSs ⟨W, 0, defScope (topS 16), ["thing"], [0], [0], ["isinstance", "str", "SHORTS"], none⟩ (defBody (topS 16)) d_is_short :=
  (sone (sret (band (bisi (T' := "str") 0 rfl 1 rfl (bv 0 rfl (mm rfl)) (by decide) rfl (by decide)) (bone (bInG (neg := false) (xs := strs_SHORTS) (fun X => op_in_seq) 2 rfl w.s_SHORTS (bv 0 rfl (mm rfl)))))))
theorem df_is_short (w : WOk W) : Df W 1 "is_short" 1 F_is_short := df_of (N := ["thing"]) (ps := ["thing"]) w.bn (w.fns _ (mf 4 rfl)) (by decide +kernel) rfl rfl (by decide) (fun _ _ _ _ _ _ us hl => match us, hl with | [_], _ => rfl) (body_is_short w)
def d_check_short : Gs := (ifS (notT (tb (c1 (consA (gD 0) nilA) F_is_short))) neverS nextS)
def F_check_short : List D → Option D := runS 1 1 d_check_short
theorem body_check_short (w : WOk W) : BSs ⟨W, 1, defScope (topS 17), ["short"], [0], [0], ["is_short", "NoShort"], none⟩ (defBody (topS 17)) d_check_short :=
  (sone (sif (tnot (tval (bcall 0 (df_is_short w) runS_len (Nat.le_of_ble_eq_true rfl) rfl (acons (bv 0 rfl (mm rfl)) anil)))) ssnever snil))
theorem df_check_short (w : WOk W) : Df W 2 "check_short" 1 F_check_short := df_of (N := ["short"]) (ps := ["short"]) w.bn (w.fns _ (mf 5 rfl)) (by decide +kernel) rfl rfl (by decide) (fun _ _ _ _ _ _ us hl => match us, hl with | [_], _ => rfl) (body_check_short w)
def d_gone_through : Gs := (seqS (ownS 2 (lstV (consA (gD 1) nilA))) (seqS (whS (tb (b2 (b2 (gD 0) (ixO 2 (b1 (fun _ => some (.int 1)) oNeg)) oIx) (ixO 2 (b1 (fun _ => some (.int 1)) oNeg)) (oEqD true))) (appS 2 (b2 (gD 0) (ixO 2 (b1 (fun _ => some (.int 1)) oNeg)) oIx)) 60) (frzS 2 (retS (gD 2)))))
def F_gone_through : List D → Option D := runS 2 3 d_gone_through
theorem body_gone_through (w : WOk W) : BSs ⟨W, 0, defScope (topS 18), ["ups", "x", "way"], [0, 1, 2], [0, 1, 2], [], none⟩ (defBody (topS 18)) d_gone_through :=
  (scons (sown (aN 2 rfl (mm rfl) (nlst (acons (bv 1 rfl (mm rfl)) anil)))) (scons (swh 60 (tcm bNe (bix (bv 0 rfl (mm rfl)) (oIxO 2 rfl (mm rfl) (bneg bi))) (oIxO 2 rfl (mm rfl) (bneg bi))) (sone (sapp 2 rfl (mm rfl) (bix (bv 0 rfl (mm rfl)) (oIxO 2 rfl (mm rfl) (bneg bi)))))) (sfrz 2 (sone (sret (bv 2 rfl (mm rfl)))))))
theorem df_gone_through (w : WOk W) : Df W 1 "gone_through" 2 F_gone_through := df_of (N := ["ups", "x", "way"]) (ps := ["ups", "x"]) w.bn (w.fns _ (mf 6 rfl)) (by decide +kernel) rfl rfl (by decide) (fun _ _ _ _ _ _ us hl => match us, hl with | [_, _], _ => rfl) (body_gone_through w)
def d_walked_whole : Gs := (seqS (asgS (c1 (consA (gD 0) (consA (gD 2) nilA)) F_gone_through) (setN 3)) (seqS (asgS (b2 (gD 3) (b1 (fun _ => some (.int 1)) oNeg) oIx) (setN 4)) (seqS (ifS (tb (b2 (gD 1) (fun _ => some (.str "whole")) (oEqD false))) neverS nextS) (seqS (ifS (tb (b2 (gD 1) (fun _ => some (.str "one")) (oEqD false))) neverS nextS) (retS (tupV (consA (gD 4) (consA (gD 0) (consA (b2 (c1 (consA (gD 3) nilA) oLen) (fun _ => some (.int 1)) (oI fun i j => i - j)) nilA)))))))))
def F_walked_whole : List D → Option D := runS 3 5 d_walked_whole
theorem body_walked_whole (w : WOk W) : BSs ⟨W, 1, defScope (topS 20), ["ups", "short", "x", "way", "head"], [0, 1, 2, 3, 4], [0, 1, 2, 3, 4], ["gone_through", "put_up", "len"], none⟩ (defBody (topS 20)) d_walked_whole :=
  (scons (sset 3 rfl (mm rfl) (bcall 0 (df_gone_through w) runS_len (Nat.le_of_ble_eq_true rfl) rfl (acons (bv 0 rfl (mm rfl)) (acons (bv 2 rfl (mm rfl)) anil)))) (scons (sset 4 rfl (mm rfl) (bix (bv 3 rfl (mm rfl)) (bneg bi))) (scons (sif (tcm bEq (bv 1 rfl (mm rfl)) bs) ssnever snil) (scons (sif (tcm bEq (bv 1 rfl (mm rfl)) bs) ssnever snil) (sone (sret (btup (acons (bv 4 rfl (mm rfl)) (acons (bv 0 rfl (mm rfl)) (acons (bop bSub (blen0 2 (acons (bv 3 rfl (mm rfl)) anil) (fun _ => rfl) (fun _ => rfl) rfl) bi) anil))))))))))
theorem df_walked_whole (w : WOk W) : Df W 2 "walked_whole" 3 F_walked_whole := df_of (N := ["ups", "short", "x", "way", "head"]) (ps := ["ups", "short", "x"]) w.bn (w.fns _ (mf 8 rfl)) (by decide +kernel) rfl rfl (by decide) (fun _ _ _ _ _ _ us hl => match us, hl with | [_, _, _], _ => rfl) (body_walked_whole w)
def d_walked : Gs := (seqS (ifS (tb (b2 (gD 1) (tupV (consA (fun _ => some (.str "halves")) (consA (fun _ => some (.str "splits")) nilA))) (oIn false))) neverS nextS) (retS (c1 (consA (gD 0) (consA (gD 1) (consA (gD 2) nilA))) F_walked_whole)))
def F_walked : List D → Option D := runS 3 3 d_walked
theorem body_walked (w : WOk W) : BSs ⟨W, 2, defScope (topS 22), ["ups", "short", "x"], [0, 1, 2], [0, 1, 2], ["walked_by_parts", "walked_whole"], none⟩ (defBody (topS 22)) d_walked :=
  (scons (sif (tcm bIn (bv 1 rfl (mm rfl)) (btup (acons bs (acons bs anil)))) ssnever snil) (sone (sret (bcall 1 (df_walked_whole w) runS_len (Nat.le_of_ble_eq_true rfl) rfl (acons (bv 0 rfl (mm rfl)) (acons (bv 1 rfl (mm rfl)) (acons (bv 2 rfl (mm rfl)) anil)))))))
theorem df_walked (w : WOk W) : Df W 3 "walked" 3 F_walked := df_of (N := ["ups", "short", "x"]) (ps := ["ups", "short", "x"]) w.bn (w.fns _ (mf 10 rfl)) (by decide +kernel) rfl rfl (by decide) (fun _ _ _ _ _ _ us hl => match us, hl with | [_, _, _], _ => rfl) (body_walked w)
def d_is_whole : Gs := (retS (andV (b1 (gD 0) (oIsi "int")) (notV (b1 (gD 0) (oIsi "bool")))))
def F_is_whole : List D → Option D := runS 1 1 d_is_whole
theorem body_is_whole (w : WOk W) : BSs ⟨W, 0, defScope (topS 26), ["thing"], [0], [0], ["isinstance", "int", "bool"], none⟩ (defBody (topS 26)) d_is_whole :=
  (sone (sret (band (bisi (T' := "int") 0 rfl 1 rfl (bv 0 rfl (mm rfl)) (by decide) rfl (by decide)) (bone (bnot (bisi (T' := "bool") 0 rfl 2 rfl (bv 0 rfl (mm rfl)) (by decide) rfl (by decide)))))))
theorem df_is_whole (w : WOk W) : Df W 1 "is_whole" 1 F_is_whole := df_of (N := ["thing"]) (ps := ["thing"]) w.bn (w.fns _ (mf 11 rfl)) (by decide +kernel) rfl rfl (by decide) (fun _ _ _ _ _ _ us hl => match us, hl with | [_], _ => rfl) (body_is_whole w)
def d_check_many : Gs := (ifS (orT (notT (tb (c1 (consA (gD 0) nilA) F_is_whole))) (notT (tb (chV (fun _ => some (.int 1)) (gD 0) (fun _ => some (.int 40)) (oB fun i j => decide (i ≤ j)) (oB fun i j => decide (i ≤ j)))))) neverS nextS)
def F_check_many : List D → Option D := runS 1 1 d_check_many
theorem body_check_many (w : WOk W) : BSs ⟨W, 1, defScope (topS 27), ["many"], [0], [0], ["is_whole", "MOST_THINGS_stores", "NoMany"], none⟩ (defBody (topS 27)) d_check_many :=
  (sone (sif (tw (wor (tnot (tval (bcall 0 (df_is_whole w) runS_len (Nat.le_of_ble_eq_true rfl) rfl (acons (bv 0 rfl (mm rfl)) anil)))) (wor1 (tnot (tch bLe bLe bi (bv 0 rfl (mm rfl)) (bgi 1 rfl w.i_MOST_THINGS_stores)))))) ssnever snil))
theorem df_check_many (w : WOk W) : Df W 2 "check_many" 1 F_check_many := df_of (N := ["many"]) (ps := ["many"]) w.bn (w.fns _ (mf 12 rfl)) (by decide +kernel) rfl rfl (by decide) (fun _ _ _ _ _ _ us hl => match us, hl with | [_], _ => rfl) (body_check_many w)
def d_is_join_word : Gs := (retS (andV (b1 (gD 0) (oIsi "str")) (inG false (gD 0) strs_JOINS)))
def F_is_join_word : List D → Option D := runS 1 1 d_is_join_word
theorem body_is_join_word (w : WOk W) : BSs ⟨W, 0, defScope (topS 28), ["thing"], [0], [0], ["isinstance", "str", "JOINS"], none⟩ (defBody (topS 28)) d_is_join_word :=
  (sone (sret (band (bisi (T' := "str") 0 rfl 1 rfl (bv 0 rfl (mm rfl)) (by decide) rfl (by decide)) (bone (bInG (neg := false) (xs := strs_JOINS) (fun X => op_in_seq) 2 rfl w.s_JOINS (bv 0 rfl (mm rfl)))))))
theorem df_is_join_word (w : WOk W) : Df W 1 "is_join_word" 1 F_is_join_word := df_of (N := ["thing"]) (ps := ["thing"]) w.bn (w.fns _ (mf 13 rfl)) (by decide +kernel) rfl rfl (by decide) (fun _ _ _ _ _ _ us hl => match us, hl with | [_], _ => rfl) (body_is_join_word w)
end Qd
end
section
set_option Elab.async false
set_option linter.all false
set_option autoImplicit false
set_option maxRecDepth 100000
set_option maxHeartbeats 4000000
namespace Qd
open PySem
open PySem.Spec
open PyProof.Rows
open L2
variable {W : Wd}
def d_check_join : Gs := (ifS (notT (tb (c1 (consA (gD 0) nilA) F_is_join_word))) neverS nextS)
def F_check_join : List D → Option D := runS 1 1 d_check_join
theorem body_check_join (w : WOk W) : BSs ⟨W, 1, defScope (topS 29), ["join"], [0], [0], ["is_join_word", "NoJoin"], none⟩ (defBody (topS 29)) d_check_join :=
  (sone (sif (tnot (tval (bcall 0 (df_is_join_word w) runS_len (Nat.le_of_ble_eq_true rfl) rfl (acons (bv 0 rfl (mm rfl)) anil)))) ssnever snil))
theorem df_check_join (w : WOk W) : Df W 2 "check_join" 1 F_check_join := df_of (N := ["join"]) (ps := ["join"]) w.bn (w.fns _ (mf 14 rfl)) (by decide +kernel) rfl rfl (by decide) (fun _ _ _ _ _ _ us hl => match us, hl with | [_], _ => rfl) (body_check_join w)
def d_new_store : Gs := (seqS (exprS (c1 (consA (gD 0) nilA) F_check_many)) (seqS (exprS (c1 (consA (gD 1) nilA) F_check_join)) (seqS (exprS (c1 (consA (gD 2) nilA) F_check_short)) (retS (tupV (consA (gD 1) (consA (gD 2) (consA (tupRgV (rg1 (gD 0))) (consA (b2 (tupV (consA (c1 (consA (b2 (gD 1) (fun _ => some (.str "size")) (oEqD false)) nilA) oInt) nilA)) (gD 0) oMul) nilA)))))))))
def F_new_store : List D → Option D := runS 3 3 d_new_store
theorem body_new_store (w : WOk W) : BSs ⟨W, 2, defScope (topS 30), ["many", "join", "short"], [0, 1, 2], [0, 1, 2], ["check_many", "check_join", "check_short", "tuple", "range", "int"], none⟩ (defBody (topS 30)) d_new_store :=
  (scons (sexpr (bcall 0 (df_check_many w) runS_len (Nat.le_of_ble_eq_true rfl) rfl (acons (bv 0 rfl (mm rfl)) anil))) (scons (sexpr (bcall 1 (df_check_join w) runS_len (Nat.le_of_ble_eq_true rfl) rfl (acons (bv 1 rfl (mm rfl)) anil))) (scons (sexpr (bcall 2 (df_check_short w) runS_len (Nat.le_of_ble_eq_true rfl) rfl (acons (bv 2 rfl (mm rfl)) anil))) (sone (sret (btup (acons (bv 1 rfl (mm rfl)) (acons (bv 2 rfl (mm rfl)) (acons (btupRg 3 rfl (r1 4 rfl (bv 0 rfl (mm rfl)))) (acons (bop bMul (btup (acons (bint0 5 (acons (bcm bEq (bv 1 rfl (mm rfl)) bs) anil) (fun _ => rfl) (fun _ => rfl) rfl) anil)) (bv 0 rfl (mm rfl))) anil))))))))))
theorem df_new_store (w : WOk W) : Df W 3 "new_store" 3 F_new_store := df_of (N := ["many", "join", "short"]) (ps := ["many", "join", "short"]) w.bn (w.fns _ (mf 15 rfl)) (by decide +kernel) rfl rfl (by decide) (fun _ _ _ _ _ _ us hl => match us, hl with | [_, _, _], _ => rfl) (body_new_store w)
def d_is_thing_of : Gs := (retS (andV (c1 (consA (gD 1) nilA) F_is_whole) (chV (fun _ => some (.int 0)) (gD 1) (gD 0) (oB fun i j => decide (i ≤ j)) (oB fun i j => decide (i < j)))))
def F_is_thing_of : List D → Option D := runS 2 2 d_is_thing_of
theorem body_is_thing_of (w : WOk W) : BSs ⟨W, 1, defScope (topS 32), ["many", "thing"], [0, 1], [0, 1], ["is_whole"], none⟩ (defBody (topS 32)) d_is_thing_of :=
  (sone (sret (band (bcall 0 (df_is_whole w) runS_len (Nat.le_of_ble_eq_true rfl) rfl (acons (bv 1 rfl (mm rfl)) anil)) (bone (bch bLe bLt bi (bv 1 rfl (mm rfl)) (bv 0 rfl (mm rfl)))))))
theorem df_is_thing_of (w : WOk W) : Df W 2 "is_thing_of" 2 F_is_thing_of := df_of (N := ["many", "thing"]) (ps := ["many", "thing"]) w.bn (w.fns _ (mf 16 rfl)) (by decide +kernel) rfl rfl (by decide) (fun _ _ _ _ _ _ us hl => match us, hl with | [_, _], _ => rfl) (body_is_thing_of w)
def d_is_word : Gs := (retS (andV (b1 (gD 0) (oIsi "str")) (b2 (gD 0) (gD 1) (oEqD false))))
def F_is_word : List D → Option D := runS 2 2 d_is_word
theorem body_is_word (w : WOk W) : BSs ⟨W, 0, defScope (topS 33), ["thing", "word"], [0, 1], [0, 1], ["isinstance", "str"], none⟩ (defBody (topS 33)) d_is_word :=
  (sone (sret (band (bisi (T' := "str") 0 rfl 1 rfl (bv 0 rfl (mm rfl)) (by decide) rfl (by decide)) (bone (bcm bEq (bv 0 rfl (mm rfl)) (bv 1 rfl (mm rfl)))))))
theorem df_is_word (w : WOk W) : Df W 1 "is_word" 2 F_is_word := df_of (N := ["thing", "word"]) (ps := ["thing", "word"]) w.bn (w.fns _ (mf 17 rfl)) (by decide +kernel) rfl rfl (by decide) (fun _ _ _ _ _ _ us hl => match us, hl with | [_, _], _ => rfl) (body_is_word w)
def d_is_deed : Gs := (seqS (ifS (orT (notT (tb (b1 (gD 1) (oIsi "tuple")))) (orT (tb (b2 (c1 (consA (gD 1) nilA) oLen) (fun _ => some (.int 0)) (oEqD false))) (notT (tb (c1 (consA (lsV (lcV (itT (slV (gD 1) (someP (fun _ => some (.int 1))) noP oSlT)) (setN 2) yesT (c1 (consA (gD 0) (consA (gD 2) nilA)) F_is_thing_of) [2])) nilA) oAll))))) (retS (fun _ => some (.bool false))) nextS) (retS (orV (andV (c1 (consA (b2 (gD 1) (fun _ => some (.int 0)) oIx) (consA (fun _ => some (.str "find")) nilA)) F_is_word) (b2 (c1 (consA (gD 1) nilA) oLen) (fun _ => some (.int 2)) (oEqD false))) (andV (c1 (consA (b2 (gD 1) (fun _ => some (.int 0)) oIx) (consA (fun _ => some (.str "join")) nilA)) F_is_word) (b2 (c1 (consA (gD 1) nilA) oLen) (fun _ => some (.int 3)) (oEqD false))))))
def F_is_deed : List D → Option D := runS 2 3 d_is_deed
theorem body_is_deed (w : WOk W) : BSs ⟨W, 2, defScope (topS 34), ["many", "thing", "x"], [0, 1], [0, 1], ["isinstance", "tuple", "len", "all", "is_word"], none⟩ (defBody (topS 34)) d_is_deed :=
  (scons (sif (tw (wor (tnot (tval (bisi (T' := "tuple") 0 rfl 1 rfl (bv 1 rfl (mm rfl)) (by decide) rfl (by decide)))) (wor (tcm bEq (blen0 2 (acons (bv 1 rfl (mm rfl)) anil) (fun _ => rfl) (fun _ => rfl) rfl) bi) (wor1 (tnot (tval (ball0 3 (acons (nle (nlc [("x", 2)] [2, 0] [2] ["is_thing_of"] (iT (bslT (bv 1 rfl (mm rfl)) (psome bi) pno)) (by kernel_rfl) (by kernel_rfl) (gname 2 rfl (mm rfl)) tsnil (bcall 0 (df_is_thing_of w) runS_len (Nat.le_of_ble_eq_true rfl) rfl (acons (bv 0 rfl (mm rfl)) (acons (bv 2 rfl (mm rfl)) anil))) (by decide))) anil) (fun _ => rfl) (fun _ => rfl) rfl))))))) (sone (sret bb)) snil) (sone (sret (bor (band (bcall 4 (df_is_word w) runS_len (Nat.le_of_ble_eq_true rfl) rfl (acons (bix (bv 1 rfl (mm rfl)) bi) (acons bs anil))) (bone (bcm bEq (blen0 2 (acons (bv 1 rfl (mm rfl)) anil) (fun _ => rfl) (fun _ => rfl) rfl) bi))) (bone (band (bcall 4 (df_is_word w) runS_len (Nat.le_of_ble_eq_true rfl) rfl (acons (bix (bv 1 rfl (mm rfl)) bi) (acons bs anil))) (bone (bcm bEq (blen0 2 (acons (bv 1 rfl (mm rfl)) anil) (fun _ => rfl) (fun _ => rfl) rfl) bi))))))))
theorem df_is_deed (w : WOk W) : Df W 3 "is_deed" 2 F_is_deed := df_of (N := ["many", "thing", "x"]) (ps := ["many", "thing"]) w.bn (w.fns _ (mf 18 rfl)) (by decide +kernel) rfl rfl (by decide) (fun _ _ _ _ _ _ us hl => match us, hl with | [_, _], _ => rfl) (body_is_deed w)
def d_is_join : Gs := (retS (andV (b1 (gD 1) (oIsi "tuple")) (andV (b2 (c1 (consA (gD 1) nilA) oLen) (fun _ => some (.int 2)) (oEqD false)) (c1 (consA (lsV (lcV (itT (gD 1)) (setN 2) yesT (c1 (consA (gD 0) (consA (gD 2) nilA)) F_is_thing_of) [2])) nilA) oAll))))
def F_is_join : List D → Option D := runS 2 3 d_is_join
theorem body_is_join (w : WOk W) : BSs ⟨W, 2, defScope (topS 35), ["many", "thing", "x"], [0, 1], [0, 1], ["isinstance", "tuple", "len", "all"], none⟩ (defBody (topS 35)) d_is_join :=
  (sone (sret (band (bisi (T' := "tuple") 0 rfl 1 rfl (bv 1 rfl (mm rfl)) (by decide) rfl (by decide)) (band (bcm bEq (blen0 2 (acons (bv 1 rfl (mm rfl)) anil) (fun _ => rfl) (fun _ => rfl) rfl) bi) (bone (ball0 3 (acons (nle (nlc [("x", 2)] [2, 0] [2] ["is_thing_of"] (iT (bv 1 rfl (mm rfl))) (by kernel_rfl) (by kernel_rfl) (gname 2 rfl (mm rfl)) tsnil (bcall 0 (df_is_thing_of w) runS_len (Nat.le_of_ble_eq_true rfl) rfl (acons (bv 0 rfl (mm rfl)) (acons (bv 2 rfl (mm rfl)) anil))) (by decide))) anil) (fun _ => rfl) (fun _ => rfl) rfl))))))
theorem df_is_join (w : WOk W) : Df W 3 "is_join" 2 F_is_join := df_of (N := ["many", "thing", "x"]) (ps := ["many", "thing"]) w.bn (w.fns _ (mf 19 rfl)) (by decide +kernel) rfl rfl (by decide) (fun _ _ _ _ _ _ us hl => match us, hl with | [_, _], _ => rfl) (body_is_join w)
def d_linked : Gs := (seqS (parOS 1 2 (cN (consA (gD 1) nilA) oListOf) (cN (consA (gD 2) nilA) oListOf)) (seqS (parS 5 6 (gD 3) (gD 4)) (seqS (ifS (orT (andT (tb (b2 (gD 0) (tupV (consA (fun _ => some (.str "size")) (consA (fun _ => some (.str "rank")) nilA))) (oIn false))) (tb (b2 (ixO 2 (gD 4)) (ixO 2 (gD 3)) (oB fun i j => decide (j < i))))) (andT (tb (b2 (gD 0) (fun _ => some (.str "names")) (oEqD false))) (tb (b2 (gD 4) (gD 3) (oB fun i j => decide (i < j)))))) (parS 5 6 (gD 4) (gD 3)) nextS) (seqS (setS 1 (gD 6) (gD 5)) (seqS (ifS (tb (b2 (gD 0) (fun _ => some (.str "size")) (oEqD false))) (augLS 2 (gD 5) (fun i j => i + j) (ixO 2 (gD 6))) nextS) (seqS (ifS (andT (tb (b2 (gD 0) (fun _ => some (.str "rank")) (oEqD false))) (tb (b2 (ixO 2 (gD 5)) (ixO 2 (gD 6)) (oEqD false)))) (augLS 2 (gD 5) (fun i j => i + j) (fun _ => some (.int 1))) nextS) (frzS 2 (frzS 1 (retS (tupV (consA (c1 (consA (gD 1) nilA) oTupOf) (consA (c1 (consA (gD 2) nilA) oTupOf) nilA))))))))))))
def F_linked : List D → Option D := runS 5 7 d_linked
theorem body_linked (w : WOk W) : BSs ⟨W, 0, defScope (topS 37), ["join", "ups", "marks", "one", "other", "stays", "goes"], [0, 1, 2, 3, 4, 5, 6], [0, 1, 2, 3, 4, 5, 6], ["list", "tuple"], none⟩ (defBody (topS 37)) d_linked :=
  (scons (sparO 1 2 rfl rfl rfl rfl rfl rfl (by decide) rfl rfl rfl (fun _ => rfl) (by decide) (nlist0 0 (acons (bv 1 rfl (mm rfl)) anil) (fun _ => rfl) (fun _ => rfl) rfl) (nlist0 0 (acons (bv 2 rfl (mm rfl)) anil) (fun _ => rfl) (fun _ => rfl) rfl) (fun _ => rfl) (fun _ => rfl)) (scons (spar 5 6 rfl rfl rfl rfl rfl rfl (by decide) rfl rfl rfl (fun _ => rfl) (by decide) (bv 3 rfl (mm rfl)) (bv 4 rfl (mm rfl)) (fun _ => rfl) (fun _ => rfl)) (scons (sif (tw (wor (tw (wand (tcm bIn (bv 0 rfl (mm rfl)) (btup (acons bs (acons bs anil)))) (wand1 (tcm bGt (oIxO 2 rfl (mm rfl) (bv 4 rfl (mm rfl))) (oIxO 2 rfl (mm rfl) (bv 3 rfl (mm rfl))))))) (wor1 (tw (wand (tcm bEq (bv 0 rfl (mm rfl)) bs) (wand1 (tcm bLt (bv 4 rfl (mm rfl)) (bv 3 rfl (mm rfl))))))))) (sone (spar 5 6 rfl rfl rfl rfl rfl rfl (by decide) rfl rfl rfl (fun _ => rfl) (by decide) (bv 4 rfl (mm rfl)) (bv 3 rfl (mm rfl)) (fun _ => rfl) (fun _ => rfl))) snil) (scons (ssetO 1 rfl (mm rfl) (bv 6 rfl (mm rfl)) (bv 5 rfl (mm rfl))) (scons (sif (tcm bEq (bv 0 rfl (mm rfl)) bs) (sone (saugO 2 rfl (mm rfl) (bv 5 rfl (mm rfl)) (oIxO 2 rfl (mm rfl) (bv 6 rfl (mm rfl))))) snil) (scons (sif (tw (wand (tcm bEq (bv 0 rfl (mm rfl)) bs) (wand1 (tcm bEq (oIxO 2 rfl (mm rfl) (bv 5 rfl (mm rfl))) (oIxO 2 rfl (mm rfl) (bv 6 rfl (mm rfl))))))) (sone (saugO 2 rfl (mm rfl) (bv 5 rfl (mm rfl)) bi)) snil) (sfrz 2 (sfrz 1 (sone (sret (btup (acons (btup0 1 (acons (bv 1 rfl (mm rfl)) anil) (fun _ => rfl) (fun _ => rfl) rfl) (acons (btup0 1 (acons (bv 2 rfl (mm rfl)) anil) (fun _ => rfl) (fun _ => rfl) rfl) anil)))))))))))))
theorem df_linked (w : WOk W) : Df W 1 "linked" 5 F_linked := df_of (N := ["join", "ups", "marks", "one", "other", "stays", "goes"]) (ps := ["join", "ups", "marks", "one", "other"]) w.bn (w.fns _ (mf 21 rfl)) (by decide +kernel) rfl rfl (by decide) (fun _ _ _ _ _ _ us hl => match us, hl with | [_, _, _, _, _], _ => rfl) (body_linked w)
def d_deed_done : Gs := (seqS (asgS (gD 0) (tupG 4 (consG (setN 2) (consG (setN 3) (consG (setN 4) (consG (setN 5) nilG)))))) (seqS (asgS (c1 (consA (gD 4) (consA (gD 3) (consA (b2 (gD 1) (fun _ => some (.int 1)) oIx) nilA))) F_walked) (tupG 3 (consG (setN 6) (consG (setN 4) (consG (setN 7) nilG))))) (seqS (ifS (tb (b2 (b2 (gD 1) (fun _ => some (.int 0)) oIx) (fun _ => some (.str "find")) (oEqD false))) (retS (tupV (consA (tupV (consA (gD 2) (consA (gD 3) (consA (gD 4) (consA (gD 5) nilA))))) (consA (gD 6) (consA (gD 7) nilA))))) nextS) (seqS (asgS (c1 (consA (gD 4) (consA (gD 3) (consA (b2 (gD 1) (fun _ => some (.int 2)) oIx) nilA))) F_walked) (tupG 3 (consG (setN 8) (consG (setN 4) (consG (setN 9) nilG))))) (seqS (ifS (tb (b2 (gD 6) (gD 8) (oEqD true))) (asgS (c1 (consA (gD 2) (consA (gD 4) (consA (gD 5) (consA (gD 6) (consA (gD 8) nilA))))) F_linked) (tupG 2 (consG (setN 4) (consG (setN 5) nilG)))) nextS) (retS (tupV (consA (tupV (consA (gD 2) (consA (gD 3) (consA (gD 4) (consA (gD 5) nilA))))) (consA (b2 (gD 6) (gD 8) (oEqD true)) (consA (b2 (gD 7) (gD 9) oAdd) nilA))))))))))
def F_deed_done : List D → Option D := runS 2 10 d_deed_done
theorem body_deed_done (w : WOk W) : BSs ⟨W, 3, defScope (topS 38), ["store", "deed", "join", "short", "ups", "marks", "one", "steps", "other", "more"], [0, 1, 2, 3, 4, 5, 6, 7, 8, 9], [0, 1, 2, 3, 4, 5, 6, 7, 8, 9], ["walked", "linked"], none⟩ (defBody (topS 38)) d_deed_done :=
  (scons (sasg (bv 0 rfl (mm rfl)) (gtup (n := 4) (gcons (gname 2 rfl (mm rfl)) (gcons (gname 3 rfl (mm rfl)) (gcons (gname 4 rfl (mm rfl)) (gcons (gname 5 rfl (mm rfl)) gnil)))))) (scons (sasg (bcall 0 (df_walked w) runS_len (Nat.le_of_ble_eq_true rfl) rfl (acons (bv 4 rfl (mm rfl)) (acons (bv 3 rfl (mm rfl)) (acons (bix (bv 1 rfl (mm rfl)) bi) anil)))) (gtup (n := 3) (gcons (gname 6 rfl (mm rfl)) (gcons (gname 4 rfl (mm rfl)) (gcons (gname 7 rfl (mm rfl)) gnil))))) (scons (sif (tcm bEq (bix (bv 1 rfl (mm rfl)) bi) bs) (sone (sret (btup (acons (btup (acons (bv 2 rfl (mm rfl)) (acons (bv 3 rfl (mm rfl)) (acons (bv 4 rfl (mm rfl)) (acons (bv 5 rfl (mm rfl)) anil))))) (acons (bv 6 rfl (mm rfl)) (acons (bv 7 rfl (mm rfl)) anil)))))) snil) (scons (sasg (bcall 0 (df_walked w) runS_len (Nat.le_of_ble_eq_true rfl) rfl (acons (bv 4 rfl (mm rfl)) (acons (bv 3 rfl (mm rfl)) (acons (bix (bv 1 rfl (mm rfl)) bi) anil)))) (gtup (n := 3) (gcons (gname 8 rfl (mm rfl)) (gcons (gname 4 rfl (mm rfl)) (gcons (gname 9 rfl (mm rfl)) gnil))))) (scons (sif (tcm bNe (bv 6 rfl (mm rfl)) (bv 8 rfl (mm rfl))) (sone (sasg (bcall 1 (df_linked w) runS_len (Nat.le_of_ble_eq_true rfl) rfl (acons (bv 2 rfl (mm rfl)) (acons (bv 4 rfl (mm rfl)) (acons (bv 5 rfl (mm rfl)) (acons (bv 6 rfl (mm rfl)) (acons (bv 8 rfl (mm rfl)) anil)))))) (gtup (n := 2) (gcons (gname 4 rfl (mm rfl)) (gcons (gname 5 rfl (mm rfl)) gnil))))) snil) (sone (sret (btup (acons (btup (acons (bv 2 rfl (mm rfl)) (acons (bv 3 rfl (mm rfl)) (acons (bv 4 rfl (mm rfl)) (acons (bv 5 rfl (mm rfl)) anil))))) (acons (bcm bNe (bv 6 rfl (mm rfl)) (bv 8 rfl (mm rfl))) (acons (bop bAdd (bv 7 rfl (mm rfl)) (bv 9 rfl (mm rfl))) anil)))))))))))
theorem df_deed_done (w : WOk W) : Df W 4 "deed_done" 2 F_deed_done := df_of (N := ["store", "deed", "join", "short", "ups", "marks", "one", "steps", "other", "more"]) (ps := ["store", "deed"]) w.bn (w.fns _ (mf 22 rfl)) (by decide +kernel) rfl rfl (by decide) (fun _ _ _ _ _ _ us hl => match us, hl with | [_, _], _ => rfl) (body_deed_done w)
def d_is_many : Gs := (retS (andV (c1 (consA (gD 0) nilA) F_is_whole) (chV (fun _ => some (.int 1)) (gD 0) (fun _ => some (.int 40)) (oB fun i j => decide (i ≤ j)) (oB fun i j => decide (i ≤ j)))))
def F_is_many : List D → Option D := runS 1 1 d_is_many
theorem body_is_many (w : WOk W) : BSs ⟨W, 1, defScope (topS 41), ["thing"], [0], [0], ["is_whole", "MOST_THINGS_stores"], none⟩ (defBody (topS 41)) d_is_many :=
  (sone (sret (band (bcall 0 (df_is_whole w) runS_len (Nat.le_of_ble_eq_true rfl) rfl (acons (bv 0 rfl (mm rfl)) anil)) (bone (bch bLe bLe bi (bv 0 rfl (mm rfl)) (bgi 1 rfl w.i_MOST_THINGS_stores))))))
theorem df_is_many (w : WOk W) : Df W 2 "is_many" 1 F_is_many := df_of (N := ["thing"]) (ps := ["thing"]) w.bn (w.fns _ (mf 24 rfl)) (by decide +kernel) rfl rfl (by decide) (fun _ _ _ _ _ _ us hl => match us, hl with | [_], _ => rfl) (body_is_many w)
def d_are_rising : Gs := (retS (c1 (consA (lsV (lcV (itR1 (consA (b2 (c1 (consA (gD 0) nilA) oLen) (fun _ => some (.int 1)) (oI fun i j => i - j)) nilA)) (setN 1) yesT (b2 (b2 (gD 0) (gD 1) oIx) (b2 (gD 0) (b2 (gD 1) (fun _ => some (.int 1)) oAdd) oIx) (oB fun i j => decide (i < j))) [1])) nilA) oAll))
def F_are_rising : List D → Option D := runS 1 2 d_are_rising
theorem body_are_rising (w : WOk W) : BSs ⟨W, 0, defScope (topS 42), ["things", "k"], [0], [0], ["all", "range", "len"], none⟩ (defBody (topS 42)) d_are_rising :=
  (sone (sret (ball0 0 (acons (nle (nlc [("k", 1)] [1, 0] [1] [] (iR1 1 rfl (acons (bop bSub (blen0 2 (acons (bv 0 rfl (mm rfl)) anil) (fun _ => rfl) (fun _ => rfl) rfl) bi) anil)) (by kernel_rfl) (by kernel_rfl) (gname 1 rfl (mm rfl)) tsnil (bcm bLt (bix (bv 0 rfl (mm rfl)) (bv 1 rfl (mm rfl))) (bix (bv 0 rfl (mm rfl)) (bop bAdd (bv 1 rfl (mm rfl)) bi))) (by decide))) anil) (fun _ => rfl) (fun _ => rfl) rfl)))
theorem df_are_rising (w : WOk W) : Df W 1 "are_rising" 1 F_are_rising := df_of (N := ["things", "k"]) (ps := ["things"]) w.bn (w.fns _ (mf 25 rfl)) (by decide +kernel) rfl rfl (by decide) (fun _ _ _ _ _ _ us hl => match us, hl with | [_], _ => rfl) (body_are_rising w)
def d_are_wholes : Gs := (retS (andV (b1 (gD 0) (oIsi "tuple")) (c1 (consA (lsV (lcV (itT (gD 0)) (setN 1) yesT (c1 (consA (gD 1) nilA) F_is_whole) [1])) nilA) oAll)))
def F_are_wholes : List D → Option D := runS 1 2 d_are_wholes
theorem body_are_wholes (w : WOk W) : BSs ⟨W, 1, defScope (topS 43), ["thing", "part"], [0], [0], ["isinstance", "tuple", "all"], none⟩ (defBody (topS 43)) d_are_wholes :=
  (sone (sret (band (bisi (T' := "tuple") 0 rfl 1 rfl (bv 0 rfl (mm rfl)) (by decide) rfl (by decide)) (bone (ball0 2 (acons (nle (nlc [("part", 1)] [1] [1] ["is_whole"] (iT (bv 0 rfl (mm rfl))) (by kernel_rfl) (by kernel_rfl) (gname 1 rfl (mm rfl)) tsnil (bcall 0 (df_is_whole w) runS_len (Nat.le_of_ble_eq_true rfl) rfl (acons (bv 1 rfl (mm rfl)) anil)) (by decide))) anil) (fun _ => rfl) (fun _ => rfl) rfl)))))
theorem df_are_wholes (w : WOk W) : Df W 2 "are_wholes" 1 F_are_wholes := df_of (N := ["thing", "part"]) (ps := ["thing"]) w.bn (w.fns _ (mf 26 rfl)) (by decide +kernel) rfl rfl (by decide) (fun _ _ _ _ _ _ us hl => match us, hl with | [_], _ => rfl) (body_are_wholes w)
def d_is_set_of : Gs := (retS (andV (c1 (consA (gD 1) nilA) F_are_wholes) (andV (c1 (consA (lsV (lcV (itT (gD 1)) (setN 2) yesT (c1 (consA (gD 0) (consA (gD 2) nilA)) F_is_thing_of) [2])) nilA) oAll) (c1 (consA (gD 1) nilA) F_are_rising))))
def F_is_set_of : List D → Option D := runS 2 3 d_is_set_of
theorem body_is_set_of (w : WOk W) : BSs ⟨W, 2, defScope (topS 44), ["many", "thing", "part"], [0, 1], [0, 1], ["are_wholes", "all", "are_rising"], none⟩ (defBody (topS 44)) d_is_set_of :=
  (sone (sret (band (bcall 0 (df_are_wholes w) runS_len (Nat.le_of_ble_eq_true rfl) rfl (acons (bv 1 rfl (mm rfl)) anil)) (band (ball0 1 (acons (nle (nlc [("part", 2)] [2, 0] [2] ["is_thing_of"] (iT (bv 1 rfl (mm rfl))) (by kernel_rfl) (by kernel_rfl) (gname 2 rfl (mm rfl)) tsnil (bcall 0 (df_is_thing_of w) runS_len (Nat.le_of_ble_eq_true rfl) rfl (acons (bv 0 rfl (mm rfl)) (acons (bv 2 rfl (mm rfl)) anil))) (by decide))) anil) (fun _ => rfl) (fun _ => rfl) rfl) (bone (bcall 2 (df_are_rising w) runS_len (Nat.le_of_ble_eq_true rfl) rfl (acons (bv 1 rfl (mm rfl)) anil)))))))
theorem df_is_set_of (w : WOk W) : Df W 3 "is_set_of" 2 F_is_set_of := df_of (N := ["many", "thing", "part"]) (ps := ["many", "thing"]) w.bn (w.fns _ (mf 27 rfl)) (by decide +kernel) rfl rfl (by decide) (fun _ _ _ _ _ _ us hl => match us, hl with | [_, _], _ => rfl) (body_is_set_of w)
end Qd
end
section
set_option Elab.async false
set_option linter.all false
set_option autoImplicit false
set_option maxRecDepth 100000
set_option maxHeartbeats 4000000
namespace Qd
open PySem
open PySem.Spec
open PyProof.Rows
open L2
variable {W : Wd}
def d_are_joins : Gs := (retS (andV (b1 (gD 1) (oIsi "tuple")) (c1 (consA (lsV (lcV (itT (gD 1)) (setN 2) yesT (c1 (consA (gD 0) (consA (gD 2) nilA)) F_is_join) [2])) nilA) oAll)))
def F_are_joins : List D → Option D := runS 2 3 d_are_joins
theorem body_are_joins (w : WOk W) : BSs ⟨W, 3, defScope (topS 45), ["many", "thing", "part"], [0, 1], [0, 1], ["isinstance", "tuple", "all"], none⟩ (defBody (topS 45)) d_are_joins :=
  (sone (sret (band (bisi (T' := "tuple") 0 rfl 1 rfl (bv 1 rfl (mm rfl)) (by decide) rfl (by decide)) (bone (ball0 2 (acons (nle (nlc [("part", 2)] [2, 0] [2] ["is_join"] (iT (bv 1 rfl (mm rfl))) (by kernel_rfl) (by kernel_rfl) (gname 2 rfl (mm rfl)) tsnil (bcall 0 (df_is_join w) runS_len (Nat.le_of_ble_eq_true rfl) rfl (acons (bv 0 rfl (mm rfl)) (acons (bv 2 rfl (mm rfl)) anil))) (by decide))) anil) (fun _ => rfl) (fun _ => rfl) rfl)))))
theorem df_are_joins (w : WOk W) : Df W 4 "are_joins" 2 F_are_joins := df_of (N := ["many", "thing", "part"]) (ps := ["many", "thing"]) w.bn (w.fns _ (mf 28 rfl)) (by decide +kernel) rfl rfl (by decide) (fun _ _ _ _ _ _ us hl => match us, hl with | [_, _], _ => rfl) (body_are_joins w)
def d_are_two : Gs := (retS (andV (c1 (consA (gD 0) (consA (gD 1) nilA)) F_is_thing_of) (c1 (consA (gD 0) (consA (gD 2) nilA)) F_is_thing_of)))
def F_are_two : List D → Option D := runS 3 3 d_are_two
theorem body_are_two (w : WOk W) : BSs ⟨W, 2, defScope (topS 46), ["many", "x", "y"], [0, 1, 2], [0, 1, 2], ["is_thing_of"], none⟩ (defBody (topS 46)) d_are_two :=
  (sone (sret (band (bcall 0 (df_is_thing_of w) runS_len (Nat.le_of_ble_eq_true rfl) rfl (acons (bv 0 rfl (mm rfl)) (acons (bv 1 rfl (mm rfl)) anil))) (bone (bcall 0 (df_is_thing_of w) runS_len (Nat.le_of_ble_eq_true rfl) rfl (acons (bv 0 rfl (mm rfl)) (acons (bv 2 rfl (mm rfl)) anil)))))))
theorem df_are_two (w : WOk W) : Df W 3 "are_two" 3 F_are_two := df_of (N := ["many", "x", "y"]) (ps := ["many", "x", "y"]) w.bn (w.fns _ (mf 29 rfl)) (by decide +kernel) rfl rfl (by decide) (fun _ _ _ _ _ _ us hl => match us, hl with | [_, _, _], _ => rfl) (body_are_two w)
def d_other_end : Gs := (seqS (ifS (tb (b2 (gD 1) (b2 (gD 0) (fun _ => some (.int 0)) oIx) (oEqD false))) (retS (b2 (gD 0) (fun _ => some (.int 1)) oIx)) nextS) (seqS (ifS (tb (b2 (gD 1) (b2 (gD 0) (fun _ => some (.int 1)) oIx) (oEqD false))) (retS (b2 (gD 0) (fun _ => some (.int 0)) oIx)) nextS) (retS (fun _ => some .none))))
def F_other_end : List D → Option D := runS 2 2 d_other_end
theorem body_other_end (w : WOk W) : BSs ⟨W, 0, defScope (topS 47), ["pair", "here"], [0, 1], [0, 1], [], none⟩ (defBody (topS 47)) d_other_end :=
  (scons (sif (tcm bEq (bv 1 rfl (mm rfl)) (bix (bv 0 rfl (mm rfl)) bi)) (sone (sret (bix (bv 0 rfl (mm rfl)) bi))) snil) (scons (sif (tcm bEq (bv 1 rfl (mm rfl)) (bix (bv 0 rfl (mm rfl)) bi)) (sone (sret (bix (bv 0 rfl (mm rfl)) bi))) snil) (sone (sret bnon))))
theorem df_other_end (w : WOk W) : Df W 1 "other_end" 2 F_other_end := df_of (N := ["pair", "here"]) (ps := ["pair", "here"]) w.bn (w.fns _ (mf 30 rfl)) (by decide +kernel) rfl rfl (by decide) (fun _ _ _ _ _ _ us hl => match us, hl with | [_, _], _ => rfl) (body_other_end w)
def d_road_goes : Gs := (seqS (asgS (gD 2) (setN 4)) (seqS (forS (itT (gD 1)) (setN 5) (seqS (ifS (orT (notT (tb (chV (fun _ => some (.int 0)) (gD 5) (c1 (consA (gD 0) nilA) oLen) (oB fun i j => decide (i ≤ j)) (oB fun i j => decide (i < j))))) (tb (b2 (c1 (consA (b2 (gD 0) (gD 5) oIx) (consA (gD 4) nilA)) F_other_end) (fun _ => some .none) (oIsN false)))) (retS (fun _ => some (.bool false))) nextS) (asgS (c1 (consA (b2 (gD 0) (gD 5) oIx) (consA (gD 4) nilA)) F_other_end) (setN 4)))) (retS (b2 (gD 4) (gD 3) (oEqD false)))))
def F_road_goes : List D → Option D := runS 4 6 d_road_goes
theorem body_road_goes (w : WOk W) : BSs ⟨W, 1, defScope (topS 48), ["row", "road", "start", "end", "here", "number"], [0, 1, 2, 3, 4, 5], [0, 1, 2, 3, 4, 5], ["len", "other_end"], none⟩ (defBody (topS 48)) d_road_goes :=
  (scons (sset 4 rfl (mm rfl) (bv 2 rfl (mm rfl))) (scons (sfor (iT (bv 1 rfl (mm rfl))) (gname 5 rfl (mm rfl)) (scons (sif (tw (wor (tnot (tch bLe bLt bi (bv 5 rfl (mm rfl)) (blen0 0 (acons (bv 0 rfl (mm rfl)) anil) (fun _ => rfl) (fun _ => rfl) rfl))) (wor1 (tcm bIs (bcall 1 (df_other_end w) runS_len (Nat.le_of_ble_eq_true rfl) rfl (acons (bix (bv 0 rfl (mm rfl)) (bv 5 rfl (mm rfl))) (acons (bv 4 rfl (mm rfl)) anil))) bnon)))) (sone (sret bb)) snil) (sone (sset 4 rfl (mm rfl) (bcall 1 (df_other_end w) runS_len (Nat.le_of_ble_eq_true rfl) rfl (acons (bix (bv 0 rfl (mm rfl)) (bv 5 rfl (mm rfl))) (acons (bv 4 rfl (mm rfl)) anil))))))) (sone (sret (bcm bEq (bv 4 rfl (mm rfl)) (bv 3 rfl (mm rfl)))))))
theorem df_road_goes (w : WOk W) : Df W 2 "road_goes" 4 F_road_goes := df_of (N := ["row", "road", "start", "end", "here", "number"]) (ps := ["row", "road", "start", "end"]) w.bn (w.fns _ (mf 31 rfl)) (by decide +kernel) rfl rfl (by decide) (fun _ _ _ _ _ _ us hl => match us, hl with | [_, _, _, _], _ => rfl) (body_road_goes w)
def d_parts_two : Gs := (retS (andV (b2 (gD 1) (gD 0) (oIn false)) (b2 (gD 2) (gD 0) (oIn true))))
def F_parts_two : List D → Option D := runS 3 3 d_parts_two
theorem body_parts_two (w : WOk W) : BSs ⟨W, 0, defScope (topS 49), ["some", "x", "y"], [0, 1, 2], [0, 1, 2], [], none⟩ (defBody (topS 49)) d_parts_two :=
  (sone (sret (band (bcm bIn (bv 1 rfl (mm rfl)) (bv 0 rfl (mm rfl))) (bone (bcm bNotIn (bv 2 rfl (mm rfl)) (bv 0 rfl (mm rfl)))))))
theorem df_parts_two (w : WOk W) : Df W 1 "parts_two" 3 F_parts_two := df_of (N := ["some", "x", "y"]) (ps := ["some", "x", "y"]) w.bn (w.fns _ (mf 32 rfl)) (by decide +kernel) rfl rfl (by decide) (fun _ _ _ _ _ _ us hl => match us, hl with | [_, _, _], _ => rfl) (body_parts_two w)
def d_is_shut : Gs := (retS (c1 (consA (lsV (lcV (itT (gD 1)) (tupG 2 (consG (setN 2) (consG (setN 3) nilG))) yesT (b2 (b2 (gD 2) (gD 0) (oIn false)) (b2 (gD 3) (gD 0) (oIn false)) (oEqD false)) [2, 3])) nilA) oAll))
def F_is_shut : List D → Option D := runS 2 4 d_is_shut
theorem body_is_shut (w : WOk W) : BSs ⟨W, 0, defScope (topS 50), ["some", "pairs", "x", "y"], [0, 1], [0, 1], ["all"], none⟩ (defBody (topS 50)) d_is_shut :=
  (sone (sret (ball0 0 (acons (nle (nlc [("x", 2), ("y", 3)] [2, 3, 0] [2, 3] [] (iT (bv 1 rfl (mm rfl))) (by kernel_rfl) (by kernel_rfl) (gtup (n := 2) (gcons (gname 2 rfl (mm rfl)) (gcons (gname 3 rfl (mm rfl)) gnil))) tsnil (bcm bEq (bcm bIn (bv 2 rfl (mm rfl)) (bv 0 rfl (mm rfl))) (bcm bIn (bv 3 rfl (mm rfl)) (bv 0 rfl (mm rfl)))) (by decide))) anil) (fun _ => rfl) (fun _ => rfl) rfl)))
theorem df_is_shut (w : WOk W) : Df W 1 "is_shut" 2 F_is_shut := df_of (N := ["some", "pairs", "x", "y"]) (ps := ["some", "pairs"]) w.bn (w.fns _ (mf 33 rfl)) (by decide +kernel) rfl rfl (by decide) (fun _ _ _ _ _ _ us hl => match us, hl with | [_, _], _ => rfl) (body_is_shut w)
def d_is_row_of_two : Gs := (seqS (asgS (gD 0) (tupG 4 (consG (setN 1) (consG (setN 2) (consG (setN 3) (consG (setN 4) nilG)))))) (retS (andV (c1 (consA (gD 1) nilA) F_is_many) (andV (c1 (consA (gD 1) (consA (gD 2) nilA)) F_are_joins) (c1 (consA (gD 1) (consA (gD 3) (consA (gD 4) nilA))) F_are_two)))))
def F_is_row_of_two : List D → Option D := runS 1 5 d_is_row_of_two
theorem body_is_row_of_two (w : WOk W) : BSs ⟨W, 4, defScope (topS 52), ["parts", "many", "row", "x", "y"], [0, 1, 2, 3, 4], [0, 1, 2, 3, 4], ["is_many", "are_joins", "are_two"], none⟩ (defBody (topS 52)) d_is_row_of_two :=
  (scons (sasg (bv 0 rfl (mm rfl)) (gtup (n := 4) (gcons (gname 1 rfl (mm rfl)) (gcons (gname 2 rfl (mm rfl)) (gcons (gname 3 rfl (mm rfl)) (gcons (gname 4 rfl (mm rfl)) gnil)))))) (sone (sret (band (bcall 0 (df_is_many w) runS_len (Nat.le_of_ble_eq_true rfl) rfl (acons (bv 1 rfl (mm rfl)) anil)) (band (bcall 1 (df_are_joins w) runS_len (Nat.le_of_ble_eq_true rfl) rfl (acons (bv 1 rfl (mm rfl)) (acons (bv 2 rfl (mm rfl)) anil))) (bone (bcall 2 (df_are_two w) runS_len (Nat.le_of_ble_eq_true rfl) rfl (acons (bv 1 rfl (mm rfl)) (acons (bv 3 rfl (mm rfl)) (acons (bv 4 rfl (mm rfl)) anil))))))))))
theorem df_is_row_of_two (w : WOk W) : Df W 5 "is_row_of_two" 1 F_is_row_of_two := df_of (N := ["parts", "many", "row", "x", "y"]) (ps := ["parts"]) w.bn (w.fns _ (mf 34 rfl)) (by decide +kernel) rfl rfl (by decide) (fun _ _ _ _ _ _ us hl => match us, hl with | [_], _ => rfl) (body_is_row_of_two w)
def d_takes_one : Gs := (retS (andV (c1 (consA (gD 0) nilA) F_is_row_of_two) (andV (c1 (consA (gD 1) nilA) F_are_wholes) (c1 (consA (b2 (gD 0) (fun _ => some (.int 1)) oIx) (consA (gD 1) (consA (b2 (gD 0) (fun _ => some (.int 2)) oIx) (consA (b2 (gD 0) (fun _ => some (.int 3)) oIx) nilA)))) F_road_goes))))
def F_takes_one : List D → Option D := runS 2 2 d_takes_one
theorem body_takes_one (w : WOk W) : BSs ⟨W, 5, defScope (topS 53), ["parts", "paper"], [0, 1], [0, 1], ["is_row_of_two", "are_wholes", "road_goes"], none⟩ (defBody (topS 53)) d_takes_one :=
  (sone (sret (band (bcall 0 (df_is_row_of_two w) runS_len (Nat.le_of_ble_eq_true rfl) rfl (acons (bv 0 rfl (mm rfl)) anil)) (band (bcall 1 (df_are_wholes w) runS_len (Nat.le_of_ble_eq_true rfl) rfl (acons (bv 1 rfl (mm rfl)) anil)) (bone (bcall 2 (df_road_goes w) runS_len (Nat.le_of_ble_eq_true rfl) rfl (acons (bix (bv 0 rfl (mm rfl)) bi) (acons (bv 1 rfl (mm rfl)) (acons (bix (bv 0 rfl (mm rfl)) bi) (acons (bix (bv 0 rfl (mm rfl)) bi) anil))))))))))
theorem df_takes_one (w : WOk W) : Df W 6 "takes_one" 2 F_takes_one := df_of (N := ["parts", "paper"]) (ps := ["parts", "paper"]) w.bn (w.fns _ (mf 35 rfl)) (by decide +kernel) rfl rfl (by decide) (fun _ _ _ _ _ _ us hl => match us, hl with | [_, _], _ => rfl) (body_takes_one w)
def d_is_apart : Gs := (retS (andV (c1 (consA (gD 0) (consA (gD 4) nilA)) F_is_set_of) (andV (c1 (consA (gD 4) (consA (gD 2) (consA (gD 3) nilA))) F_parts_two) (c1 (consA (gD 4) (consA (gD 1) nilA)) F_is_shut))))
def F_is_apart : List D → Option D := runS 5 5 d_is_apart
theorem body_is_apart (w : WOk W) : BSs ⟨W, 3, defScope (topS 54), ["many", "row", "x", "y", "paper"], [0, 1, 2, 3, 4], [0, 1, 2, 3, 4], ["is_set_of", "parts_two", "is_shut"], none⟩ (defBody (topS 54)) d_is_apart :=
  (sone (sret (band (bcall 0 (df_is_set_of w) runS_len (Nat.le_of_ble_eq_true rfl) rfl (acons (bv 0 rfl (mm rfl)) (acons (bv 4 rfl (mm rfl)) anil))) (band (bcall 1 (df_parts_two w) runS_len (Nat.le_of_ble_eq_true rfl) rfl (acons (bv 4 rfl (mm rfl)) (acons (bv 2 rfl (mm rfl)) (acons (bv 3 rfl (mm rfl)) anil)))) (bone (bcall 2 (df_is_shut w) runS_len (Nat.le_of_ble_eq_true rfl) rfl (acons (bv 4 rfl (mm rfl)) (acons (bv 1 rfl (mm rfl)) anil))))))))
theorem df_is_apart (w : WOk W) : Df W 4 "is_apart" 5 F_is_apart := df_of (N := ["many", "row", "x", "y", "paper"]) (ps := ["many", "row", "x", "y", "paper"]) w.bn (w.fns _ (mf 36 rfl)) (by decide +kernel) rfl rfl (by decide) (fun _ _ _ _ _ _ us hl => match us, hl with | [_, _, _, _, _], _ => rfl) (body_is_apart w)
def d_takes_apart : Gs := (seqS (asgS (gD 0) (tupG 4 (consG (setN 2) (consG (setN 3) (consG (setN 4) (consG (setN 5) nilG)))))) (retS (andV (c1 (consA (gD 0) nilA) F_is_row_of_two) (c1 (consA (gD 2) (consA (gD 3) (consA (gD 4) (consA (gD 5) (consA (gD 1) nilA))))) F_is_apart))))
def F_takes_apart : List D → Option D := runS 2 6 d_takes_apart
theorem body_takes_apart (w : WOk W) : BSs ⟨W, 5, defScope (topS 55), ["parts", "paper", "many", "row", "x", "y"], [0, 1, 2, 3, 4, 5], [0, 1, 2, 3, 4, 5], ["is_row_of_two", "is_apart"], none⟩ (defBody (topS 55)) d_takes_apart :=
  (scons (sasg (bv 0 rfl (mm rfl)) (gtup (n := 4) (gcons (gname 2 rfl (mm rfl)) (gcons (gname 3 rfl (mm rfl)) (gcons (gname 4 rfl (mm rfl)) (gcons (gname 5 rfl (mm rfl)) gnil)))))) (sone (sret (band (bcall 0 (df_is_row_of_two w) runS_len (Nat.le_of_ble_eq_true rfl) rfl (acons (bv 0 rfl (mm rfl)) anil)) (bone (bcall 1 (df_is_apart w) runS_len (Nat.le_of_ble_eq_true rfl) rfl (acons (bv 2 rfl (mm rfl)) (acons (bv 3 rfl (mm rfl)) (acons (bv 4 rfl (mm rfl)) (acons (bv 5 rfl (mm rfl)) (acons (bv 1 rfl (mm rfl)) anil)))))))))))
theorem df_takes_apart (w : WOk W) : Df W 6 "takes_apart" 2 F_takes_apart := df_of (N := ["parts", "paper", "many", "row", "x", "y"]) (ps := ["parts", "paper"]) w.bn (w.fns _ (mf 37 rfl)) (by decide +kernel) rfl rfl (by decide) (fun _ _ _ _ _ _ us hl => match us, hl with | [_, _], _ => rfl) (body_takes_apart w)
def d_takes_first : Gs := (seqS (asgS (gD 0) (tupG 5 (consG (setN 2) (consG (setN 3) (consG (setN 4) (consG (setN 5) (consG (setN 6) nilG))))))) (seqS (ifS (orT (notT (tb (c1 (consA (slV (gD 0) noP (someP (fun _ => some (.int 4))) oSlT) nilA) F_is_row_of_two))) (orT (notT (tb (c1 (consA (gD 6) nilA) F_is_whole))) (notT (tb (chV (fun _ => some (.int 1)) (gD 6) (c1 (consA (gD 3) nilA) oLen) (oB fun i j => decide (i ≤ j)) (oB fun i j => decide (i ≤ j))))))) (retS (fun _ => some (.bool false))) nextS) (seqS (ifS (orT (notT (tb (b1 (gD 1) (oIsi "tuple")))) (orT (tb (b2 (c1 (consA (gD 1) nilA) oLen) (fun _ => some (.int 2)) (oEqD true))) (notT (tb (c1 (consA (b2 (gD 1) (fun _ => some (.int 0)) oIx) nilA) F_are_wholes))))) (retS (fun _ => some (.bool false))) nextS) (retS (andV (c1 (consA (slV (gD 3) noP (someP (gD 6)) oSlT) (consA (b2 (gD 1) (fun _ => some (.int 0)) oIx) (consA (gD 4) (consA (gD 5) nilA)))) F_road_goes) (c1 (consA (gD 2) (consA (slV (gD 3) noP (someP (b2 (gD 6) (fun _ => some (.int 1)) (oI fun i j => i - j))) oSlT) (consA (gD 4) (consA (gD 5) (consA (b2 (gD 1) (fun _ => some (.int 1)) oIx) nilA))))) F_is_apart))))))
def F_takes_first : List D → Option D := runS 2 7 d_takes_first
theorem body_takes_first (w : WOk W) : BSs ⟨W, 5, defScope (topS 56), ["parts", "paper", "many", "row", "x", "y", "moment"], [0, 1, 2, 3, 4, 5, 6], [0, 1, 2, 3, 4, 5, 6], ["is_row_of_two", "is_whole", "len", "isinstance", "tuple", "are_wholes", "road_goes", "is_apart"], none⟩ (defBody (topS 56)) d_takes_first :=
  (scons (sasg (bv 0 rfl (mm rfl)) (gtup (n := 5) (gcons (gname 2 rfl (mm rfl)) (gcons (gname 3 rfl (mm rfl)) (gcons (gname 4 rfl (mm rfl)) (gcons (gname 5 rfl (mm rfl)) (gcons (gname 6 rfl (mm rfl)) gnil))))))) (scons (sif (tw (wor (tnot (tval (bcall 0 (df_is_row_of_two w) runS_len (Nat.le_of_ble_eq_true rfl) rfl (acons (bslT (bv 0 rfl (mm rfl)) pno (psome bi)) anil)))) (wor (tnot (tval (bcall 1 (df_is_whole w) runS_len (Nat.le_of_ble_eq_true rfl) rfl (acons (bv 6 rfl (mm rfl)) anil)))) (wor1 (tnot (tch bLe bLe bi (bv 6 rfl (mm rfl)) (blen0 2 (acons (bv 3 rfl (mm rfl)) anil) (fun _ => rfl) (fun _ => rfl) rfl))))))) (sone (sret bb)) snil) (scons (sif (tw (wor (tnot (tval (bisi (T' := "tuple") 3 rfl 4 rfl (bv 1 rfl (mm rfl)) (by decide) rfl (by decide)))) (wor (tcm bNe (blen0 2 (acons (bv 1 rfl (mm rfl)) anil) (fun _ => rfl) (fun _ => rfl) rfl) bi) (wor1 (tnot (tval (bcall 5 (df_are_wholes w) runS_len (Nat.le_of_ble_eq_true rfl) rfl (acons (bix (bv 1 rfl (mm rfl)) bi) anil)))))))) (sone (sret bb)) snil) (sone (sret (band (bcall 6 (df_road_goes w) runS_len (Nat.le_of_ble_eq_true rfl) rfl (acons (bslT (bv 3 rfl (mm rfl)) pno (psome (bv 6 rfl (mm rfl)))) (acons (bix (bv 1 rfl (mm rfl)) bi) (acons (bv 4 rfl (mm rfl)) (acons (bv 5 rfl (mm rfl)) anil))))) (bone (bcall 7 (df_is_apart w) runS_len (Nat.le_of_ble_eq_true rfl) rfl (acons (bv 2 rfl (mm rfl)) (acons (bslT (bv 3 rfl (mm rfl)) pno (psome (bop bSub (bv 6 rfl (mm rfl)) bi))) (acons (bv 4 rfl (mm rfl)) (acons (bv 5 rfl (mm rfl)) (acons (bix (bv 1 rfl (mm rfl)) bi) anil)))))))))))))
theorem df_takes_first (w : WOk W) : Df W 6 "takes_first" 2 F_takes_first := df_of (N := ["parts", "paper", "many", "row", "x", "y", "moment"]) (ps := ["parts", "paper"]) w.bn (w.fns _ (mf 38 rfl)) (by decide +kernel) rfl rfl (by decide) (fun _ _ _ _ _ _ us hl => match us, hl with | [_, _], _ => rfl) (body_takes_first w)
def d_are_join_and_ups : Gs := (seqS (asgS (gD 0) (tupG 2 (consG (setN 1) (consG (setN 2) nilG)))) (retS (andV (c1 (consA (gD 1) nilA) F_is_join_word) (c1 (consA (gD 2) nilA) F_is_forest))))
def F_are_join_and_ups : List D → Option D := runS 1 3 d_are_join_and_ups
theorem body_are_join_and_ups (w : WOk W) : BSs ⟨W, 2, defScope (topS 62), ["parts", "join", "ups"], [0, 1, 2], [0, 1, 2], ["is_join_word", "is_forest"], none⟩ (defBody (topS 62)) d_are_join_and_ups :=
  (scons (sasg (bv 0 rfl (mm rfl)) (gtup (n := 2) (gcons (gname 1 rfl (mm rfl)) (gcons (gname 2 rfl (mm rfl)) gnil)))) (sone (sret (band (bcall 0 (df_is_join_word w) runS_len (Nat.le_of_ble_eq_true rfl) rfl (acons (bv 1 rfl (mm rfl)) anil)) (bone (bcall 1 (df_is_forest w) runS_len (Nat.le_of_ble_eq_true rfl) rfl (acons (bv 2 rfl (mm rfl)) anil)))))))
theorem df_are_join_and_ups (w : WOk W) : Df W 3 "are_join_and_ups" 1 F_are_join_and_ups := df_of (N := ["parts", "join", "ups"]) (ps := ["parts"]) w.bn (w.fns _ (mf 43 rfl)) (by decide +kernel) rfl rfl (by decide) (fun _ _ _ _ _ _ us hl => match us, hl with | [_], _ => rfl) (body_are_join_and_ups w)
end Qd
end
section
set_option Elab.async false
set_option linter.all false
set_option autoImplicit false
set_option maxRecDepth 100000
set_option maxHeartbeats 4000000
namespace Qd
open PySem
open PySem.Spec
open PyProof.Rows
open L2
variable {W : Wd}
def d_children_of_checkshapes : Gs := (retS (lsV (lcV (itR1 (consA (c1 (consA (gD 0) nilA) oLen) nilA)) (setN 2) (andT (tb (b2 (b2 (gD 0) (gD 2) oIx) (gD 1) (oEqD false))) (tb (b2 (gD 2) (gD 1) (oEqD true)))) (gD 2) [2])))
def F_children_of_checkshapes : List D → Option D := runS 2 3 d_children_of_checkshapes
theorem body_children_of_checkshapes (w : WOk W) : BSs ⟨W, 0, defScope (topS 64), ["ups", "thing", "child"], [0, 1], [0, 1], ["range", "len"], none⟩ (defBody (topS 64)) d_children_of_checkshapes :=
  (sone (sret (nle (nlc [("child", 2)] [2, 1, 0] [2] [] (iR1 0 rfl (acons (blen0 1 (acons (bv 0 rfl (mm rfl)) anil) (fun _ => rfl) (fun _ => rfl) rfl) anil)) (by kernel_rfl) (by kernel_rfl) (gname 2 rfl (mm rfl)) (tsone (tw (wand (tcm bEq (bix (bv 0 rfl (mm rfl)) (bv 2 rfl (mm rfl))) (bv 1 rfl (mm rfl))) (wand1 (tcm bNe (bv 2 rfl (mm rfl)) (bv 1 rfl (mm rfl))))))) (bv 2 rfl (mm rfl)) (by decide)))))
theorem df_children_of_checkshapes (w : WOk W) : Df W 1 "children_of_checkshapes" 2 F_children_of_checkshapes := df_of (N := ["ups", "thing", "child"]) (ps := ["ups", "thing"]) w.bn (w.fns _ (mf 45 rfl)) (by decide +kernel) rfl rfl (by decide) (fun _ _ _ _ _ _ us hl => match us, hl with | [_, _], _ => rfl) (body_children_of_checkshapes w)
def d_size_below (R : List D → Option D) : Gs := (retS (b2 (fun _ => some (.int 1)) (c1 (consA (lsV (lcV (itL (c1 (consA (gD 0) (consA (gD 1) nilA)) F_children_of_checkshapes)) (setN 2) yesT (c1 (consA (gD 0) (consA (gD 2) nilA)) R) [2])) nilA) oSum) oAdd))
def F_size_below : Nat → List D → Option D
  | 0 => runS 2 3 neverS
  | k + 1 => runS 2 3 (d_size_below (F_size_below k))
theorem len_size_below : ∀ k ds d, F_size_below k ds = some d → ds.length = 2
  | 0, ds, d, h => runS_len ds d h
  | k + 1, ds, d, h => runS_len ds d h
theorem body_size_below (w : WOk W) (k : Nat) (ih : Df W (2 + k) "size_below" 2 (F_size_below k)) : BSs ⟨W, 2 + k, defScope (topS 66), ["ups", "thing", "child"], [0, 1], [0, 1], ["sum", "children_of_checkshapes"], none⟩ (defBody (topS 66)) (d_size_below (F_size_below k)) :=
  have hR := len_size_below k
  (sone (sret (bop bAdd bi (bsum0 0 (acons (nle (nlc [("child", 2)] [2, 0] [2] ["size_below"] (iL (bcall 1 (df_children_of_checkshapes w) runS_len (by show _ ≤ 2 + k; omega) rfl (acons (bv 0 rfl (mm rfl)) (acons (bv 1 rfl (mm rfl)) anil)))) (by kernel_rfl) (by kernel_rfl) (gname 2 rfl (mm rfl)) tsnil (bcall 0 ih hR (Nat.le_refl _) rfl (acons (bv 0 rfl (mm rfl)) (acons (bv 2 rfl (mm rfl)) anil))) (by decide))) anil) (fun _ => rfl) (fun _ => rfl) rfl))))
theorem df_size_below (w : WOk W) : ∀ k, Df W (2 + k) "size_below" 2 (F_size_below k)
  | 0 => df_of (N := ["ups", "thing", "child"]) (ps := ["ups", "thing"]) (gs := ["sum", "children_of_checkshapes"]) (L := [0, 1]) (k := 1) w.bn (w.fns _ (mf 46 rfl)) (by decide +kernel) rfl rfl (by decide) (fun _ _ _ _ _ _ us hl => match us, hl with | [_, _], _ => rfl) ssnever
  | k + 1 => df_of (N := ["ups", "thing", "child"]) (ps := ["ups", "thing"]) (gs := ["sum", "children_of_checkshapes"]) (L := [0, 1]) (k := 2 + k) w.bn (w.fns _ (mf 46 rfl)) (by decide +kernel) rfl rfl (by decide) (fun _ _ _ _ _ _ us hl => match us, hl with | [_, _], _ => rfl) (body_size_below w k (df_size_below w k))
def d_steps_below_checkshapes (R : List D → Option D) : Gs := (retS (maxDfV (consA (lsV (lcV (itL (c1 (consA (gD 0) (consA (gD 1) nilA)) F_children_of_checkshapes)) (setN 2) yesT (b2 (fun _ => some (.int 1)) (c1 (consA (gD 0) (consA (gD 2) nilA)) R) oAdd) [2])) nilA) 0))
def F_steps_below_checkshapes : Nat → List D → Option D
  | 0 => runS 2 3 neverS
  | k + 1 => runS 2 3 (d_steps_below_checkshapes (F_steps_below_checkshapes k))
theorem len_steps_below_checkshapes : ∀ k ds d, F_steps_below_checkshapes k ds = some d → ds.length = 2
  | 0, ds, d, h => runS_len ds d h
  | k + 1, ds, d, h => runS_len ds d h
theorem body_steps_below_checkshapes (w : WOk W) (k : Nat) (ih : Df W (2 + k) "steps_below_checkshapes" 2 (F_steps_below_checkshapes k)) : BSs ⟨W, 2 + k, defScope (topS 67), ["ups", "thing", "child"], [0, 1], [0, 1], ["max", "children_of_checkshapes"], none⟩ (defBody (topS 67)) (d_steps_below_checkshapes (F_steps_below_checkshapes k)) :=
  have hR := len_steps_below_checkshapes k
  (sone (sret (bmaxD 0 rfl (acons (nle (nlc [("child", 2)] [2, 0] [2] ["steps_below_checkshapes"] (iL (bcall 1 (df_children_of_checkshapes w) runS_len (by show _ ≤ 2 + k; omega) rfl (acons (bv 0 rfl (mm rfl)) (acons (bv 1 rfl (mm rfl)) anil)))) (by kernel_rfl) (by kernel_rfl) (gname 2 rfl (mm rfl)) tsnil (bop bAdd bi (bcall 0 ih hR (Nat.le_refl _) rfl (acons (bv 0 rfl (mm rfl)) (acons (bv 2 rfl (mm rfl)) anil)))) (by decide))) anil))))
theorem df_steps_below_checkshapes (w : WOk W) : ∀ k, Df W (2 + k) "steps_below_checkshapes" 2 (F_steps_below_checkshapes k)
  | 0 => df_of (N := ["ups", "thing", "child"]) (ps := ["ups", "thing"]) (gs := ["max", "children_of_checkshapes"]) (L := [0, 1]) (k := 1) w.bn (w.fns _ (mf 47 rfl)) (by decide +kernel) rfl rfl (by decide) (fun _ _ _ _ _ _ us hl => match us, hl with | [_, _], _ => rfl) ssnever
  | k + 1 => df_of (N := ["ups", "thing", "child"]) (ps := ["ups", "thing"]) (gs := ["max", "children_of_checkshapes"]) (L := [0, 1]) (k := 2 + k) w.bn (w.fns _ (mf 47 rfl)) (by decide +kernel) rfl rfl (by decide) (fun _ _ _ _ _ _ us hl => match us, hl with | [_, _], _ => rfl) (body_steps_below_checkshapes w k (df_steps_below_checkshapes w k))
def d_can_be : Gs := (seqS (asgS (c1 (consA (gD 1) (consA (gD 2) nilA)) F_children_of_checkshapes) (setN 3)) (seqS (ifS (tb (b2 (gD 0) (fun _ => some (.str "size")) (oEqD false))) (seqS (asgS (fun _ => some (.int 1)) (setN 4)) (forS (itL (lsV (cN (consA (lsV (lcV (itL (gD 3)) (setN 7) yesT (c1 (consA (gD 1) (consA (gD 7) nilA)) (F_size_below 6)) [7])) nilA) oSorted))) (setN 5) (seqS (ifS (tb (b2 (gD 5) (gD 4) (oB fun i j => decide (j < i)))) (retS (fun _ => some (.bool false))) nextS) (augS 4 (gD 5) (oI fun i j => i + j))))) nextS) (seqS (ifS (tb (b2 (gD 0) (fun _ => some (.str "rank")) (oEqD false))) (seqS (asgS (lsV (lcV (itL (gD 3)) (setN 7) yesT (c1 (consA (gD 1) (consA (gD 7) nilA)) (F_steps_below_checkshapes 6)) [7])) (setN 6)) (retS (c1 (consA (lsV (lcV (itR1 (consA (maxDfV (consA (gD 6) nilA) 0) nilA)) (setN 8) yesT (b2 (gD 8) (gD 6) (oIn false)) [8])) nilA) oAll))) nextS) (retS (orV (b2 (gD 0) (fun _ => some (.str "names")) (oEqD true)) (c1 (consA (lsV (lcV (itL (gD 3)) (setN 7) yesT (b2 (gD 7) (gD 2) (oB fun i j => decide (j < i))) [7])) nilA) oAll))))))
def F_can_be : List D → Option D := runS 3 9 d_can_be
theorem body_can_be (w : WOk W) : BSs ⟨W, 8, defScope (topS 69), ["join", "ups", "thing", "children", "before", "size", "below", "child", "steps"], [0, 1, 2, 3, 4, 5, 6], [0, 1, 2, 3, 4, 5, 6], ["children_of_checkshapes", "sorted", "all", "range", "max"], none⟩ (defBody (topS 69)) d_can_be :=
  (scons (sset 3 rfl (mm rfl) (bcall 0 (df_children_of_checkshapes w) runS_len (Nat.le_of_ble_eq_true rfl) rfl (acons (bv 1 rfl (mm rfl)) (acons (bv 2 rfl (mm rfl)) anil)))) (scons (sif (tcm bEq (bv 0 rfl (mm rfl)) bs) (scons (sset 4 rfl (mm rfl) bi) (sone (sfor (iL (nle (nsort0 1 (acons (nle (nlc [("child", 7)] [7, 1] [7] ["size_below"] (iL (bv 3 rfl (mm rfl))) (by kernel_rfl) (by kernel_rfl) (gname 7 rfl (mm rfl)) tsnil (bcall 0 (df_size_below w 6) (len_size_below 6) (Nat.le_of_ble_eq_true rfl) rfl (acons (bv 1 rfl (mm rfl)) (acons (bv 7 rfl (mm rfl)) anil))) (by decide))) anil) (fun _ => rfl) (fun _ => rfl) rfl))) (gname 5 rfl (mm rfl)) (scons (sif (tcm bGt (bv 5 rfl (mm rfl)) (bv 4 rfl (mm rfl))) (sone (sret bb)) snil) (sone (saugA 4 rfl (mm rfl) (bv 5 rfl (mm rfl)))))))) snil) (scons (sif (tcm bEq (bv 0 rfl (mm rfl)) bs) (scons (sdat (aLcC 6 rfl (mm rfl) rfl (nlc [("child", 7)] [7, 1] [7] ["steps_below_checkshapes"] (iL (bv 3 rfl (mm rfl))) (by kernel_rfl) (by kernel_rfl) (gname 7 rfl (mm rfl)) tsnil (bcall 0 (df_steps_below_checkshapes w 6) (len_steps_below_checkshapes 6) (Nat.le_of_ble_eq_true rfl) rfl (acons (bv 1 rfl (mm rfl)) (acons (bv 7 rfl (mm rfl)) anil))) (by decide)))) (sone (sret (ball0 2 (acons (nle (nlc [("steps", 8)] [8, 6] [8] [] (iR1 3 rfl (acons (bmaxD 4 rfl (acons (bv 6 rfl (mm rfl)) anil)) anil)) (by kernel_rfl) (by kernel_rfl) (gname 8 rfl (mm rfl)) tsnil (bcm bIn (bv 8 rfl (mm rfl)) (bv 6 rfl (mm rfl))) (by decide))) anil) (fun _ => rfl) (fun _ => rfl) rfl)))) snil) (sone (sret (bor (bcm bNe (bv 0 rfl (mm rfl)) bs) (bone (ball0 2 (acons (nle (nlc [("child", 7)] [7, 2] [7] [] (iL (bv 3 rfl (mm rfl))) (by kernel_rfl) (by kernel_rfl) (gname 7 rfl (mm rfl)) tsnil (bcm bGt (bv 7 rfl (mm rfl)) (bv 2 rfl (mm rfl))) (by decide))) anil) (fun _ => rfl) (fun _ => rfl) rfl))))))))
theorem df_can_be (w : WOk W) : Df W 9 "can_be" 3 F_can_be := df_of (N := ["join", "ups", "thing", "children", "before", "size", "below", "child", "steps"]) (ps := ["join", "ups", "thing"]) w.bn (w.fns _ (mf 48 rfl)) (by decide +kernel) rfl rfl (by decide) (fun _ _ _ _ _ _ us hl => match us, hl with | [_, _, _], _ => rfl) (body_can_be w)
def d_takes_never : Gs := (seqS (ifS (orT (notT (tb (c1 (consA (gD 0) nilA) F_are_join_and_ups))) (notT (tb (c1 (consA (c1 (consA (b2 (gD 0) (fun _ => some (.int 1)) oIx) nilA) oLen) (consA (gD 1) nilA)) F_is_thing_of)))) (retS (fun _ => some (.bool false))) nextS) (retS (notV (c1 (consA (b2 (gD 0) (fun _ => some (.int 0)) oIx) (consA (b2 (gD 0) (fun _ => some (.int 1)) oIx) (consA (gD 1) nilA))) F_can_be))))
def F_takes_never : List D → Option D := runS 2 2 d_takes_never
theorem body_takes_never (w : WOk W) : BSs ⟨W, 9, defScope (topS 70), ["parts", "paper"], [0, 1], [0, 1], ["are_join_and_ups", "is_thing_of", "len", "can_be"], none⟩ (defBody (topS 70)) d_takes_never :=
  (scons (sif (tw (wor (tnot (tval (bcall 0 (df_are_join_and_ups w) runS_len (Nat.le_of_ble_eq_true rfl) rfl (acons (bv 0 rfl (mm rfl)) anil)))) (wor1 (tnot (tval (bcall 1 (df_is_thing_of w) runS_len (Nat.le_of_ble_eq_true rfl) rfl (acons (blen0 2 (acons (bix (bv 0 rfl (mm rfl)) bi) anil) (fun _ => rfl) (fun _ => rfl) rfl) (acons (bv 1 rfl (mm rfl)) anil)))))))) (sone (sret bb)) snil) (sone (sret (bnot (bcall 3 (df_can_be w) runS_len (Nat.le_of_ble_eq_true rfl) rfl (acons (bix (bv 0 rfl (mm rfl)) bi) (acons (bix (bv 0 rfl (mm rfl)) bi) (acons (bv 1 rfl (mm rfl)) anil))))))))
theorem df_takes_never (w : WOk W) : Df W 10 "takes_never" 2 F_takes_never := df_of (N := ["parts", "paper"]) (ps := ["parts", "paper"]) w.bn (w.fns _ (mf 49 rfl)) (by decide +kernel) rfl rfl (by decide) (fun _ _ _ _ _ _ us hl => match us, hl with | [_, _], _ => rfl) (body_takes_never w)
def d_is_rest : Gs := (retS (andV (c1 (consA (gD 0) nilA) F_is_whole) (orV (b2 (gD 0) (fun _ => some (.int 0)) (oEqD false)) (chV (fun _ => some (.int 2)) (gD 0) (fun _ => some (.int 1000)) (oB fun i j => decide (i ≤ j)) (oB fun i j => decide (i ≤ j))))))
def F_is_rest : List D → Option D := runS 1 1 d_is_rest
theorem body_is_rest (w : WOk W) : BSs ⟨W, 1, defScope (topS 73), ["thing"], [0], [0], ["is_whole", "MOST_REST"], none⟩ (defBody (topS 73)) d_is_rest :=
  (sone (sret (band (bcall 0 (df_is_whole w) runS_len (Nat.le_of_ble_eq_true rfl) rfl (acons (bv 0 rfl (mm rfl)) anil)) (bone (bor (bcm bEq (bv 0 rfl (mm rfl)) bi) (bone (bch bLe bLe bi (bv 0 rfl (mm rfl)) (bgi 1 rfl w.i_MOST_REST))))))))
theorem df_is_rest (w : WOk W) : Df W 2 "is_rest" 1 F_is_rest := df_of (N := ["thing"]) (ps := ["thing"]) w.bn (w.fns _ (mf 50 rfl)) (by decide +kernel) rfl rfl (by decide) (fun _ _ _ _ _ _ us hl => match us, hl with | [_], _ => rfl) (body_is_rest w)
def d_is_telling : Gs := (seqS (ifS (orT (notT (tb (b1 (gD 1) (oIsi "tuple")))) (tb (b2 (c1 (consA (gD 1) nilA) oLen) (fun _ => some (.int 3)) (oEqD true)))) (retS (fun _ => some (.bool false))) nextS) (retS (andV (c1 (consA (gD 0) (consA (b2 (gD 1) (fun _ => some (.int 0)) oIx) nilA)) F_is_thing_of) (andV (c1 (consA (gD 0) (consA (b2 (gD 1) (fun _ => some (.int 1)) oIx) nilA)) F_is_thing_of) (c1 (consA (b2 (gD 1) (fun _ => some (.int 2)) oIx) nilA) F_is_whole)))))
def F_is_telling : List D → Option D := runS 2 2 d_is_telling
theorem body_is_telling (w : WOk W) : BSs ⟨W, 2, defScope (topS 74), ["many", "thing"], [0, 1], [0, 1], ["isinstance", "tuple", "len", "is_thing_of", "is_whole"], none⟩ (defBody (topS 74)) d_is_telling :=
  (scons (sif (tw (wor (tnot (tval (bisi (T' := "tuple") 0 rfl 1 rfl (bv 1 rfl (mm rfl)) (by decide) rfl (by decide)))) (wor1 (tcm bNe (blen0 2 (acons (bv 1 rfl (mm rfl)) anil) (fun _ => rfl) (fun _ => rfl) rfl) bi)))) (sone (sret bb)) snil) (sone (sret (band (bcall 3 (df_is_thing_of w) runS_len (Nat.le_of_ble_eq_true rfl) rfl (acons (bv 0 rfl (mm rfl)) (acons (bix (bv 1 rfl (mm rfl)) bi) anil))) (band (bcall 3 (df_is_thing_of w) runS_len (Nat.le_of_ble_eq_true rfl) rfl (acons (bv 0 rfl (mm rfl)) (acons (bix (bv 1 rfl (mm rfl)) bi) anil))) (bone (bcall 4 (df_is_whole w) runS_len (Nat.le_of_ble_eq_true rfl) rfl (acons (bix (bv 1 rfl (mm rfl)) bi) anil))))))))
theorem df_is_telling (w : WOk W) : Df W 3 "is_telling" 2 F_is_telling := df_of (N := ["many", "thing"]) (ps := ["many", "thing"]) w.bn (w.fns _ (mf 51 rfl)) (by decide +kernel) rfl rfl (by decide) (fun _ _ _ _ _ _ us hl => match us, hl with | [_, _], _ => rfl) (body_is_telling w)
def d_are_tellings : Gs := (seqS (asgS (gD 0) (tupG 3 (consG (setN 1) (consG (setN 2) (consG (setN 3) nilG))))) (seqS (ifS (orT (notT (tb (c1 (consA (gD 1) nilA) F_is_many))) (orT (notT (tb (c1 (consA (gD 2) nilA) F_is_rest))) (notT (tb (b1 (gD 3) (oIsi "tuple")))))) (retS (fun _ => some (.bool false))) nextS) (retS (c1 (consA (lsV (lcV (itT (gD 3)) (setN 4) yesT (c1 (consA (gD 1) (consA (gD 4) nilA)) F_is_telling) [4])) nilA) oAll))))
def F_are_tellings : List D → Option D := runS 1 5 d_are_tellings
theorem body_are_tellings (w : WOk W) : BSs ⟨W, 3, defScope (topS 75), ["parts", "many", "rest", "tellings", "telling"], [0, 1, 2, 3], [0, 1, 2, 3], ["is_many", "is_rest", "isinstance", "tuple", "all"], none⟩ (defBody (topS 75)) d_are_tellings :=
  (scons (sasg (bv 0 rfl (mm rfl)) (gtup (n := 3) (gcons (gname 1 rfl (mm rfl)) (gcons (gname 2 rfl (mm rfl)) (gcons (gname 3 rfl (mm rfl)) gnil))))) (scons (sif (tw (wor (tnot (tval (bcall 0 (df_is_many w) runS_len (Nat.le_of_ble_eq_true rfl) rfl (acons (bv 1 rfl (mm rfl)) anil)))) (wor (tnot (tval (bcall 1 (df_is_rest w) runS_len (Nat.le_of_ble_eq_true rfl) rfl (acons (bv 2 rfl (mm rfl)) anil)))) (wor1 (tnot (tval (bisi (T' := "tuple") 2 rfl 3 rfl (bv 3 rfl (mm rfl)) (by decide) rfl (by decide)))))))) (sone (sret bb)) snil) (sone (sret (ball0 4 (acons (nle (nlc [("telling", 4)] [4, 1] [4] ["is_telling"] (iT (bv 3 rfl (mm rfl))) (by kernel_rfl) (by kernel_rfl) (gname 4 rfl (mm rfl)) tsnil (bcall 0 (df_is_telling w) runS_len (Nat.le_of_ble_eq_true rfl) rfl (acons (bv 1 rfl (mm rfl)) (acons (bv 4 rfl (mm rfl)) anil))) (by decide))) anil) (fun _ => rfl) (fun _ => rfl) rfl)))))
theorem df_are_tellings (w : WOk W) : Df W 4 "are_tellings" 1 F_are_tellings := df_of (N := ["parts", "many", "rest", "tellings", "telling"]) (ps := ["parts"]) w.bn (w.fns _ (mf 52 rfl)) (by decide +kernel) rfl rfl (by decide) (fun _ _ _ _ _ _ us hl => match us, hl with | [_], _ => rfl) (body_are_tellings w)
def d_is_nought : Gs := (retS (orV (b2 (gD 1) (fun _ => some (.int 0)) (oEqD false)) (andV (b2 (gD 0) (fun _ => some (.int 0)) (oEqD true)) (b2 (b2 (gD 1) (gD 0) (oIC cMod fun i j => i % j)) (fun _ => some (.int 0)) (oEqD false)))))
def F_is_nought : List D → Option D := runS 2 2 d_is_nought
theorem body_is_nought (w : WOk W) : BSs ⟨W, 0, defScope (topS 76), ["rest", "number"], [0, 1], [0, 1], [], none⟩ (defBody (topS 76)) d_is_nought :=
  (sone (sret (bor (bcm bEq (bv 1 rfl (mm rfl)) bi) (bone (band (bcm bNe (bv 0 rfl (mm rfl)) bi) (bone (bcm bEq (bop bMod (bv 1 rfl (mm rfl)) (bv 0 rfl (mm rfl))) bi)))))))
theorem df_is_nought (w : WOk W) : Df W 1 "is_nought" 2 F_is_nought := df_of (N := ["rest", "number"]) (ps := ["rest", "number"]) w.bn (w.fns _ (mf 53 rfl)) (by decide +kernel) rfl rfl (by decide) (fun _ _ _ _ _ _ us hl => match us, hl with | [_, _], _ => rfl) (body_is_nought w)
def d_is_road : Gs := (seqS (ifS (notT (tb (b1 (gD 1) (oIsi "tuple")))) (retS (fun _ => some (.bool false))) nextS) (seqS (forS (itT (gD 1)) (setN 2) (ifS (orT (notT (tb (c1 (consA (gD 2) nilA) F_are_wholes))) (orT (tb (b2 (c1 (consA (gD 2) nilA) oLen) (fun _ => some (.int 2)) (oEqD true))) (orT (notT (tb (chV (fun _ => some (.int 0)) (b2 (gD 2) (fun _ => some (.int 0)) oIx) (c1 (consA (gD 0) nilA) oLen) (oB fun i j => decide (i ≤ j)) (oB fun i j => decide (i < j))))) (tb (b2 (b2 (gD 2) (fun _ => some (.int 1)) oIx) (tupV (consA (fun _ => some (.int 1)) (consA (b1 (fun _ => some (.int 1)) oNeg) nilA))) (oIn true)))))) (retS (fun _ => some (.bool false))) nextS)) (retS (fun _ => some (.bool true)))))
def F_is_road : List D → Option D := runS 2 3 d_is_road
theorem body_is_road (w : WOk W) : BSs ⟨W, 2, defScope (topS 77), ["tellings", "thing", "part"], [0, 1, 2], [0, 1, 2], ["isinstance", "tuple", "are_wholes", "len"], none⟩ (defBody (topS 77)) d_is_road :=
  (scons (sif (tnot (tval (bisi (T' := "tuple") 0 rfl 1 rfl (bv 1 rfl (mm rfl)) (by decide) rfl (by decide)))) (sone (sret bb)) snil) (scons (sfor (iT (bv 1 rfl (mm rfl))) (gname 2 rfl (mm rfl)) (sone (sif (tw (wor (tnot (tval (bcall 2 (df_are_wholes w) runS_len (Nat.le_of_ble_eq_true rfl) rfl (acons (bv 2 rfl (mm rfl)) anil)))) (wor (tcm bNe (blen0 3 (acons (bv 2 rfl (mm rfl)) anil) (fun _ => rfl) (fun _ => rfl) rfl) bi) (wor (tnot (tch bLe bLt bi (bix (bv 2 rfl (mm rfl)) bi) (blen0 3 (acons (bv 0 rfl (mm rfl)) anil) (fun _ => rfl) (fun _ => rfl) rfl))) (wor1 (tcm bNotIn (bix (bv 2 rfl (mm rfl)) bi) (btup (acons bi (acons (bneg bi) anil))))))))) (sone (sret bb)) snil))) (sone (sret bb))))
theorem df_is_road (w : WOk W) : Df W 3 "is_road" 2 F_is_road := df_of (N := ["tellings", "thing", "part"]) (ps := ["tellings", "thing"]) w.bn (w.fns _ (mf 54 rfl)) (by decide +kernel) rfl rfl (by decide) (fun _ _ _ _ _ _ us hl => match us, hl with | [_, _], _ => rfl) (body_is_road w)
def d_road_end : Gs := (seqS (asgS (gD 2) (setN 3)) (seqS (asgS (fun _ => some (.int 0)) (setN 4)) (seqS (forS (itT (gD 1)) (tupG 2 (consG (setN 5) (consG (setN 6) nilG))) (seqS (asgS (b2 (gD 0) (gD 5) oIx) (tupG 3 (consG (setN 7) (consG (setN 8) (consG (setN 9) nilG))))) (seqS (ifS (tb (b2 (gD 6) (b1 (fun _ => some (.int 1)) oNeg) (oEqD false))) (parS 7 8 (gD 8) (gD 7)) nextS) (seqS (ifS (tb (b2 (gD 3) (gD 7) (oEqD true))) (retS (fun _ => some .none)) nextS) (seqS (asgS (gD 8) (setN 3)) (augS 4 (b2 (gD 6) (gD 9) oMul) (oI fun i j => i + j))))))) (retS (tupV (consA (gD 3) (consA (gD 4) nilA)))))))
def F_road_end : List D → Option D := runS 3 10 d_road_end
theorem body_road_end (w : WOk W) : BSs ⟨W, 0, defScope (topS 78), ["tellings", "road", "start", "here", "total", "number", "sign", "x", "y", "much"], [0, 1, 2, 3, 4, 5, 6, 7, 8, 9], [0, 1, 2, 3, 4, 5, 6, 7, 8, 9], [], none⟩ (defBody (topS 78)) d_road_end :=
  (scons (sset 3 rfl (mm rfl) (bv 2 rfl (mm rfl))) (scons (sset 4 rfl (mm rfl) bi) (scons (sfor (iT (bv 1 rfl (mm rfl))) (gtup (n := 2) (gcons (gname 5 rfl (mm rfl)) (gcons (gname 6 rfl (mm rfl)) gnil))) (scons (sasg (bix (bv 0 rfl (mm rfl)) (bv 5 rfl (mm rfl))) (gtup (n := 3) (gcons (gname 7 rfl (mm rfl)) (gcons (gname 8 rfl (mm rfl)) (gcons (gname 9 rfl (mm rfl)) gnil))))) (scons (sif (tcm bEq (bv 6 rfl (mm rfl)) (bneg bi)) (sone (spar 7 8 rfl rfl rfl rfl rfl rfl (by decide) rfl rfl rfl (fun _ => rfl) (by decide) (bv 8 rfl (mm rfl)) (bv 7 rfl (mm rfl)) (fun _ => rfl) (fun _ => rfl))) snil) (scons (sif (tcm bNe (bv 3 rfl (mm rfl)) (bv 7 rfl (mm rfl))) (sone (sret bnon)) snil) (scons (sset 3 rfl (mm rfl) (bv 8 rfl (mm rfl))) (sone (saugA 4 rfl (mm rfl) (bop bMul (bv 6 rfl (mm rfl)) (bv 9 rfl (mm rfl)))))))))) (sone (sret (btup (acons (bv 3 rfl (mm rfl)) (acons (bv 4 rfl (mm rfl)) anil))))))))
theorem df_road_end (w : WOk W) : Df W 1 "road_end" 3 F_road_end := df_of (N := ["tellings", "road", "start", "here", "total", "number", "sign", "x", "y", "much"]) (ps := ["tellings", "road", "start"]) w.bn (w.fns _ (mf 55 rfl)) (by decide +kernel) rfl rfl (by decide) (fun _ _ _ _ _ _ us hl => match us, hl with | [_, _, _], _ => rfl) (body_road_end w)
def d_takes_fit : Gs := (seqS (asgS (gD 0) (tupG 3 (consG (setN 2) (consG (setN 3) (consG (setN 4) nilG))))) (seqS (ifS (orT (notT (tb (c1 (consA (gD 0) nilA) F_are_tellings))) (orT (notT (tb (c1 (consA (gD 1) nilA) F_are_wholes))) (tb (b2 (c1 (consA (gD 1) nilA) oLen) (gD 2) (oEqD true))))) (retS (fun _ => some (.bool false))) nextS) (retS (c1 (consA (lsV (lcV (itT (gD 4)) (tupG 3 (consG (setN 5) (consG (setN 6) (consG (setN 7) nilG)))) yesT (c1 (consA (gD 3) (consA (b2 (b2 (b2 (gD 1) (gD 6) oIx) (b2 (gD 1) (gD 5) oIx) (oI fun i j => i - j)) (gD 7) (oI fun i j => i - j)) nilA)) F_is_nought) [5, 6, 7])) nilA) oAll))))
def F_takes_fit : List D → Option D := runS 2 8 d_takes_fit
theorem body_takes_fit (w : WOk W) : BSs ⟨W, 4, defScope (topS 80), ["parts", "paper", "many", "rest", "tellings", "x", "y", "much"], [0, 1, 2, 3, 4], [0, 1, 2, 3, 4], ["are_tellings", "are_wholes", "len", "all"], none⟩ (defBody (topS 80)) d_takes_fit :=
  (scons (sasg (bv 0 rfl (mm rfl)) (gtup (n := 3) (gcons (gname 2 rfl (mm rfl)) (gcons (gname 3 rfl (mm rfl)) (gcons (gname 4 rfl (mm rfl)) gnil))))) (scons (sif (tw (wor (tnot (tval (bcall 0 (df_are_tellings w) runS_len (Nat.le_of_ble_eq_true rfl) rfl (acons (bv 0 rfl (mm rfl)) anil)))) (wor (tnot (tval (bcall 1 (df_are_wholes w) runS_len (Nat.le_of_ble_eq_true rfl) rfl (acons (bv 1 rfl (mm rfl)) anil)))) (wor1 (tcm bNe (blen0 2 (acons (bv 1 rfl (mm rfl)) anil) (fun _ => rfl) (fun _ => rfl) rfl) (bv 2 rfl (mm rfl))))))) (sone (sret bb)) snil) (sone (sret (ball0 3 (acons (nle (nlc [("x", 5), ("y", 6), ("much", 7)] [5, 6, 7, 3, 1] [5, 6, 7] ["is_nought"] (iT (bv 4 rfl (mm rfl))) (by kernel_rfl) (by kernel_rfl) (gtup (n := 3) (gcons (gname 5 rfl (mm rfl)) (gcons (gname 6 rfl (mm rfl)) (gcons (gname 7 rfl (mm rfl)) gnil)))) tsnil (bcall 0 (df_is_nought w) runS_len (Nat.le_of_ble_eq_true rfl) rfl (acons (bv 3 rfl (mm rfl)) (acons (bop bSub (bop bSub (bix (bv 1 rfl (mm rfl)) (bv 6 rfl (mm rfl))) (bix (bv 1 rfl (mm rfl)) (bv 5 rfl (mm rfl)))) (bv 7 rfl (mm rfl))) anil))) (by decide))) anil) (fun _ => rfl) (fun _ => rfl) rfl)))))
theorem df_takes_fit (w : WOk W) : Df W 5 "takes_fit" 2 F_takes_fit := df_of (N := ["parts", "paper", "many", "rest", "tellings", "x", "y", "much"]) (ps := ["parts", "paper"]) w.bn (w.fns _ (mf 57 rfl)) (by decide +kernel) rfl rfl (by decide) (fun _ _ _ _ _ _ us hl => match us, hl with | [_, _], _ => rfl) (body_takes_fit w)
end Qd
end
section
set_option Elab.async false
set_option linter.all false
set_option autoImplicit false
set_option maxRecDepth 100000
set_option maxHeartbeats 4000000
namespace Qd
open PySem
open PySem.Spec
open PyProof.Rows
open L2
variable {W : Wd}
def d_takes_clash : Gs := (seqS (asgS (gD 0) (tupG 3 (consG (setN 4) (consG (setN 5) (consG (setN 6) nilG))))) (seqS (ifS (orT (notT (tb (c1 (consA (gD 0) nilA) F_are_tellings))) (orT (notT (tb (c1 (consA (gD 6) (consA (gD 1) nilA)) F_is_road))) (tb (b2 (gD 1) (tupV nilA) (oEqD false))))) (retS (fun _ => some (.bool false))) nextS) (seqS (asgS (b2 (gD 1) (fun _ => some (.int 0)) oIx) (tupG 2 (consG (setN 7) (consG (setN 8) nilG)))) (seqS (asgS (ifV (tb (b2 (gD 8) (fun _ => some (.int 1)) (oEqD false))) (b2 (b2 (gD 6) (gD 7) oIx) (fun _ => some (.int 0)) oIx) (b2 (b2 (gD 6) (gD 7) oIx) (fun _ => some (.int 1)) oIx)) (setN 2)) (seqS (asgS (c1 (consA (gD 6) (consA (gD 1) (consA (gD 2) nilA))) F_road_end) (setN 3)) (retS (andV (b2 (gD 3) (fun _ => some .none) (oIsN true)) (andV (b2 (b2 (gD 3) (fun _ => some (.int 0)) oIx) (gD 2) (oEqD false)) (notV (c1 (consA (gD 5) (consA (b2 (gD 3) (fun _ => some (.int 1)) oIx) nilA)) F_is_nought))))))))))
def F_takes_clash : List D → Option D := runS 2 9 d_takes_clash
theorem body_takes_clash (w : WOk W) : BSs ⟨W, 4, defScope (topS 81), ["parts", "paper", "start", "end", "many", "rest", "tellings", "number", "sign"], [0, 1, 2, 3, 4, 5, 6, 7, 8], [0, 1, 2, 3, 4, 5, 6, 7, 8], ["are_tellings", "is_road", "road_end", "is_nought"], none⟩ (defBody (topS 81)) d_takes_clash :=
  (scons (sasg (bv 0 rfl (mm rfl)) (gtup (n := 3) (gcons (gname 4 rfl (mm rfl)) (gcons (gname 5 rfl (mm rfl)) (gcons (gname 6 rfl (mm rfl)) gnil))))) (scons (sif (tw (wor (tnot (tval (bcall 0 (df_are_tellings w) runS_len (Nat.le_of_ble_eq_true rfl) rfl (acons (bv 0 rfl (mm rfl)) anil)))) (wor (tnot (tval (bcall 1 (df_is_road w) runS_len (Nat.le_of_ble_eq_true rfl) rfl (acons (bv 6 rfl (mm rfl)) (acons (bv 1 rfl (mm rfl)) anil))))) (wor1 (tcm bEq (bv 1 rfl (mm rfl)) (btup anil)))))) (sone (sret bb)) snil) (scons (sasg (bix (bv 1 rfl (mm rfl)) bi) (gtup (n := 2) (gcons (gname 7 rfl (mm rfl)) (gcons (gname 8 rfl (mm rfl)) gnil)))) (scons (sset 2 rfl (mm rfl) (bife (tcm bEq (bv 8 rfl (mm rfl)) bi) (bix (bix (bv 6 rfl (mm rfl)) (bv 7 rfl (mm rfl))) bi) (bix (bix (bv 6 rfl (mm rfl)) (bv 7 rfl (mm rfl))) bi))) (scons (sset 3 rfl (mm rfl) (bcall 2 (df_road_end w) runS_len (Nat.le_of_ble_eq_true rfl) rfl (acons (bv 6 rfl (mm rfl)) (acons (bv 1 rfl (mm rfl)) (acons (bv 2 rfl (mm rfl)) anil))))) (sone (sret (band (bcm bIsNot (bv 3 rfl (mm rfl)) bnon) (band (bcm bEq (bix (bv 3 rfl (mm rfl)) bi) (bv 2 rfl (mm rfl))) (bone (bnot (bcall 3 (df_is_nought w) runS_len (Nat.le_of_ble_eq_true rfl) rfl (acons (bv 5 rfl (mm rfl)) (acons (bix (bv 3 rfl (mm rfl)) bi) anil))))))))))))))
theorem df_takes_clash (w : WOk W) : Df W 5 "takes_clash" 2 F_takes_clash := df_of (N := ["parts", "paper", "start", "end", "many", "rest", "tellings", "number", "sign"]) (ps := ["parts", "paper"]) w.bn (w.fns _ (mf 58 rfl)) (by decide +kernel) rfl rfl (by decide) (fun _ _ _ _ _ _ us hl => match us, hl with | [_, _], _ => rfl) (body_takes_clash w)
def d_are_lots : Gs := (seqS (ifS (orT (notT (tb (b1 (gD 1) (oIsi "tuple")))) (notT (tb (c1 (consA (lsV (lcV (itT (gD 1)) (setN 3) yesT (andV (c1 (consA (gD 0) (consA (gD 3) nilA)) F_is_set_of) (b2 (gD 3) (tupV nilA) (oEqD true))) [3])) nilA) oAll)))) (retS (fun _ => some (.bool false))) nextS) (seqS (ownS 2 (lstV nilA)) (seqS (forS (itT (gD 1)) (setN 3) (extTS 2 (gD 3))) (frzS 2 (retS (andV (b2 (lsV (cN (consA (gD 2) nilA) oSorted)) (lsV (lstRg (rg1 (gD 0)))) (oEqD false)) (c1 (consA (lsV (lcV (itT (gD 1)) (setN 3) yesT (b2 (gD 3) (fun _ => some (.int 0)) oIx) [3])) nilA) F_are_rising)))))))
def F_are_lots : List D → Option D := runS 2 4 d_are_lots
theorem body_are_lots (w : WOk W) : BSs ⟨W, 3, defScope (topS 83), ["many", "thing", "things", "lot"], [0, 1, 2, 3], [0, 1, 2, 3], ["isinstance", "tuple", "all", "sorted", "list", "range", "are_rising"], none⟩ (defBody (topS 83)) d_are_lots :=
  (scons (sif (tw (wor (tnot (tval (bisi (T' := "tuple") 0 rfl 1 rfl (bv 1 rfl (mm rfl)) (by decide) rfl (by decide)))) (wor1 (tnot (tval (ball0 2 (acons (nle (nlc [("lot", 3)] [3, 0] [3] ["is_set_of"] (iT (bv 1 rfl (mm rfl))) (by kernel_rfl) (by kernel_rfl) (gname 3 rfl (mm rfl)) tsnil (band (bcall 0 (df_is_set_of w) runS_len (Nat.le_of_ble_eq_true rfl) rfl (acons (bv 0 rfl (mm rfl)) (acons (bv 3 rfl (mm rfl)) anil))) (bone (bcm bNe (bv 3 rfl (mm rfl)) (btup anil)))) (by decide))) anil) (fun _ => rfl) (fun _ => rfl) rfl)))))) (sone (sret bb)) snil) (scons (sown (aN 2 rfl (mm rfl) (nlst anil))) (scons (sfor (iT (bv 1 rfl (mm rfl))) (gname 3 rfl (mm rfl)) (sone (sextT 2 rfl (mm rfl) (bv 3 rfl (mm rfl))))) (sfrz 2 (sone (sret (band (bcm bEq (nle (nsort0 3 (acons (bv 2 rfl (mm rfl)) anil) (fun _ => rfl) (fun _ => rfl) rfl)) (nle (nlstRg 4 rfl (r1 5 rfl (bv 0 rfl (mm rfl)))))) (bone (bcall 6 (df_are_rising w) runS_len (Nat.le_of_ble_eq_true rfl) rfl (acons (nle (nlc [("lot", 3)] [3] [3] [] (iT (bv 1 rfl (mm rfl))) (by kernel_rfl) (by kernel_rfl) (gname 3 rfl (mm rfl)) tsnil (bix (bv 3 rfl (mm rfl)) bi) (by decide))) anil))))))))))
theorem df_are_lots (w : WOk W) : Df W 4 "are_lots" 2 F_are_lots := df_of (N := ["many", "thing", "things", "lot"]) (ps := ["many", "thing"]) w.bn (w.fns _ (mf 59 rfl)) (by decide +kernel) rfl rfl (by decide) (fun _ _ _ _ _ _ us hl => match us, hl with | [_, _], _ => rfl) (body_are_lots w)
def d_are_two_lots : Gs := (seqS (asgS (gD 0) (tupG 5 (consG (setN 1) (consG (setN 2) (consG (setN 3) (consG (setN 4) (consG (setN 5) nilG))))))) (retS (andV (c1 (consA (gD 1) nilA) F_is_many) (andV (c1 (consA (gD 1) (consA (gD 2) nilA)) F_are_lots) (andV (c1 (consA (gD 1) (consA (gD 3) nilA)) F_are_lots) (c1 (consA (gD 1) (consA (gD 4) (consA (gD 5) nilA))) F_are_two))))))
def F_are_two_lots : List D → Option D := runS 1 6 d_are_two_lots
theorem body_are_two_lots (w : WOk W) : BSs ⟨W, 4, defScope (topS 84), ["parts", "many", "one", "other", "x", "y"], [0, 1, 2, 3, 4, 5], [0, 1, 2, 3, 4, 5], ["is_many", "are_lots", "are_two"], none⟩ (defBody (topS 84)) d_are_two_lots :=
  (scons (sasg (bv 0 rfl (mm rfl)) (gtup (n := 5) (gcons (gname 1 rfl (mm rfl)) (gcons (gname 2 rfl (mm rfl)) (gcons (gname 3 rfl (mm rfl)) (gcons (gname 4 rfl (mm rfl)) (gcons (gname 5 rfl (mm rfl)) gnil))))))) (sone (sret (band (bcall 0 (df_is_many w) runS_len (Nat.le_of_ble_eq_true rfl) rfl (acons (bv 1 rfl (mm rfl)) anil)) (band (bcall 1 (df_are_lots w) runS_len (Nat.le_of_ble_eq_true rfl) rfl (acons (bv 1 rfl (mm rfl)) (acons (bv 2 rfl (mm rfl)) anil))) (band (bcall 1 (df_are_lots w) runS_len (Nat.le_of_ble_eq_true rfl) rfl (acons (bv 1 rfl (mm rfl)) (acons (bv 3 rfl (mm rfl)) anil))) (bone (bcall 2 (df_are_two w) runS_len (Nat.le_of_ble_eq_true rfl) rfl (acons (bv 1 rfl (mm rfl)) (acons (bv 4 rfl (mm rfl)) (acons (bv 5 rfl (mm rfl)) anil)))))))))))
theorem df_are_two_lots (w : WOk W) : Df W 5 "are_two_lots" 1 F_are_two_lots := df_of (N := ["parts", "many", "one", "other", "x", "y"]) (ps := ["parts"]) w.bn (w.fns _ (mf 60 rfl)) (by decide +kernel) rfl rfl (by decide) (fun _ _ _ _ _ _ us hl => match us, hl with | [_], _ => rfl) (body_are_two_lots w)
def d_are_beside : Gs := (retS (c1 (consA (lsV (lcV (itT (gD 0)) (setN 3) yesT (andV (b2 (gD 1) (gD 3) (oIn false)) (b2 (gD 2) (gD 3) (oIn false))) [3])) nilA) oAny))
def F_are_beside : List D → Option D := runS 3 4 d_are_beside
theorem body_are_beside (w : WOk W) : BSs ⟨W, 0, defScope (topS 85), ["lots", "x", "y", "lot"], [0, 1, 2], [0, 1, 2], ["any"], none⟩ (defBody (topS 85)) d_are_beside :=
  (sone (sret (bany0 0 (acons (nle (nlc [("lot", 3)] [3, 1, 2] [3] [] (iT (bv 0 rfl (mm rfl))) (by kernel_rfl) (by kernel_rfl) (gname 3 rfl (mm rfl)) tsnil (band (bcm bIn (bv 1 rfl (mm rfl)) (bv 3 rfl (mm rfl))) (bone (bcm bIn (bv 2 rfl (mm rfl)) (bv 3 rfl (mm rfl))))) (by decide))) anil) (fun _ => rfl) (fun _ => rfl) rfl)))
theorem df_are_beside (w : WOk W) : Df W 1 "are_beside" 3 F_are_beside := df_of (N := ["lots", "x", "y", "lot"]) (ps := ["lots", "x", "y"]) w.bn (w.fns _ (mf 61 rfl)) (by decide +kernel) rfl rfl (by decide) (fun _ _ _ _ _ _ us hl => match us, hl with | [_, _, _], _ => rfl) (body_are_beside w)
def d_takes_together : Gs := (seqS (ifS (notT (tb (c1 (consA (gD 0) nilA) F_are_two_lots))) (retS (fun _ => some (.bool false))) nextS) (seqS (asgS (gD 0) (tupG 5 (consG (setN 2) (consG (setN 3) (consG (setN 4) (consG (setN 5) (consG (setN 6) nilG))))))) (seqS (ifS (orT (notT (tb (c1 (consA (gD 1) nilA) F_are_wholes))) (orT (notT (tb (c1 (consA (lsV (lcV (itT (gD 1)) (setN 8) yesT (c1 (consA (gD 2) (consA (gD 8) nilA)) F_is_thing_of) [8])) nilA) oAll))) (tb (b2 (gD 1) (tupV nilA) (oEqD false))))) (retS (fun _ => some (.bool false))) nextS) (seqS (ifS (orT (tb (b2 (b2 (gD 1) (fun _ => some (.int 0)) oIx) (gD 5) (oEqD true))) (tb (b2 (b2 (gD 1) (b1 (fun _ => some (.int 1)) oNeg) oIx) (gD 6) (oEqD true)))) (retS (fun _ => some (.bool false))) nextS) (retS (c1 (consA (lsV (lcV (itR1 (consA (b2 (c1 (consA (gD 1) nilA) oLen) (fun _ => some (.int 1)) (oI fun i j => i - j)) nilA)) (setN 7) yesT (c1 (consA (b2 (gD 3) (gD 4) oAdd) (consA (b2 (gD 1) (gD 7) oIx) (consA (b2 (gD 1) (b2 (gD 7) (fun _ => some (.int 1)) oAdd) oIx) nilA))) F_are_beside) [7])) nilA) oAll))))))
def F_takes_together : List D → Option D := runS 2 9 d_takes_together
theorem body_takes_together (w : WOk W) : BSs ⟨W, 5, defScope (topS 86), ["parts", "paper", "many", "one", "other", "x", "y", "k", "part"], [0, 1, 2, 3, 4, 5, 6], [0, 1, 2, 3, 4, 5, 6], ["are_two_lots", "are_wholes", "all", "range", "len"], none⟩ (defBody (topS 86)) d_takes_together :=
  (scons (sif (tnot (tval (bcall 0 (df_are_two_lots w) runS_len (Nat.le_of_ble_eq_true rfl) rfl (acons (bv 0 rfl (mm rfl)) anil)))) (sone (sret bb)) snil) (scons (sasg (bv 0 rfl (mm rfl)) (gtup (n := 5) (gcons (gname 2 rfl (mm rfl)) (gcons (gname 3 rfl (mm rfl)) (gcons (gname 4 rfl (mm rfl)) (gcons (gname 5 rfl (mm rfl)) (gcons (gname 6 rfl (mm rfl)) gnil))))))) (scons (sif (tw (wor (tnot (tval (bcall 1 (df_are_wholes w) runS_len (Nat.le_of_ble_eq_true rfl) rfl (acons (bv 1 rfl (mm rfl)) anil)))) (wor (tnot (tval (ball0 2 (acons (nle (nlc [("part", 8)] [8, 2] [8] ["is_thing_of"] (iT (bv 1 rfl (mm rfl))) (by kernel_rfl) (by kernel_rfl) (gname 8 rfl (mm rfl)) tsnil (bcall 0 (df_is_thing_of w) runS_len (Nat.le_of_ble_eq_true rfl) rfl (acons (bv 2 rfl (mm rfl)) (acons (bv 8 rfl (mm rfl)) anil))) (by decide))) anil) (fun _ => rfl) (fun _ => rfl) rfl))) (wor1 (tcm bEq (bv 1 rfl (mm rfl)) (btup anil)))))) (sone (sret bb)) snil) (scons (sif (tw (wor (tcm bNe (bix (bv 1 rfl (mm rfl)) bi) (bv 5 rfl (mm rfl))) (wor1 (tcm bNe (bix (bv 1 rfl (mm rfl)) (bneg bi)) (bv 6 rfl (mm rfl)))))) (sone (sret bb)) snil) (sone (sret (ball0 2 (acons (nle (nlc [("k", 7)] [7, 3, 4, 1] [7] ["are_beside"] (iR1 3 rfl (acons (bop bSub (blen0 4 (acons (bv 1 rfl (mm rfl)) anil) (fun _ => rfl) (fun _ => rfl) rfl) bi) anil)) (by kernel_rfl) (by kernel_rfl) (gname 7 rfl (mm rfl)) tsnil (bcall 0 (df_are_beside w) runS_len (Nat.le_of_ble_eq_true rfl) rfl (acons (bop bAdd (bv 3 rfl (mm rfl)) (bv 4 rfl (mm rfl))) (acons (bix (bv 1 rfl (mm rfl)) (bv 7 rfl (mm rfl))) (acons (bix (bv 1 rfl (mm rfl)) (bop bAdd (bv 7 rfl (mm rfl)) bi)) anil)))) (by decide))) anil) (fun _ => rfl) (fun _ => rfl) rfl)))))))
theorem df_takes_together (w : WOk W) : Df W 6 "takes_together" 2 F_takes_together := df_of (N := ["parts", "paper", "many", "one", "other", "x", "y", "k", "part"]) (ps := ["parts", "paper"]) w.bn (w.fns _ (mf 62 rfl)) (by decide +kernel) rfl rfl (by decide) (fun _ _ _ _ _ _ us hl => match us, hl with | [_, _], _ => rfl) (body_takes_together w)
def d_takes_not_together : Gs := (seqS (ifS (notT (tb (c1 (consA (gD 0) nilA) F_are_two_lots))) (retS (fun _ => some (.bool false))) nextS) (seqS (asgS (gD 0) (tupG 5 (consG (setN 2) (consG (setN 3) (consG (setN 4) (consG (setN 5) (consG (setN 6) nilG))))))) (seqS (ifS (orT (notT (tb (c1 (consA (gD 2) (consA (gD 1) nilA)) F_is_set_of))) (notT (tb (c1 (consA (gD 1) (consA (gD 5) (consA (gD 6) nilA))) F_parts_two)))) (retS (fun _ => some (.bool false))) nextS) (retS (c1 (consA (lsV (lcV (itT (b2 (gD 3) (gD 4) oAdd)) (setN 7) yesT (b2 (c1 (consA (lsV (lcV (itT (gD 7)) (setN 8) (tb (b2 (gD 8) (gD 1) (oIn false))) (gD 8) [8])) nilA) oLen) (tupV (consA (fun _ => some (.int 0)) (consA (c1 (consA (gD 7) nilA) oLen) nilA))) (oIn false)) [7])) nilA) oAll)))))
def F_takes_not_together : List D → Option D := runS 2 9 d_takes_not_together
theorem body_takes_not_together (w : WOk W) : BSs ⟨W, 5, defScope (topS 87), ["parts", "paper", "many", "one", "other", "x", "y", "lot", "thing"], [0, 1, 2, 3, 4, 5, 6], [0, 1, 2, 3, 4, 5, 6], ["are_two_lots", "is_set_of", "parts_two", "all"], none⟩ (defBody (topS 87)) d_takes_not_together :=
  (scons (sif (tnot (tval (bcall 0 (df_are_two_lots w) runS_len (Nat.le_of_ble_eq_true rfl) rfl (acons (bv 0 rfl (mm rfl)) anil)))) (sone (sret bb)) snil) (scons (sasg (bv 0 rfl (mm rfl)) (gtup (n := 5) (gcons (gname 2 rfl (mm rfl)) (gcons (gname 3 rfl (mm rfl)) (gcons (gname 4 rfl (mm rfl)) (gcons (gname 5 rfl (mm rfl)) (gcons (gname 6 rfl (mm rfl)) gnil))))))) (scons (sif (tw (wor (tnot (tval (bcall 1 (df_is_set_of w) runS_len (Nat.le_of_ble_eq_true rfl) rfl (acons (bv 2 rfl (mm rfl)) (acons (bv 1 rfl (mm rfl)) anil))))) (wor1 (tnot (tval (bcall 2 (df_parts_two w) runS_len (Nat.le_of_ble_eq_true rfl) rfl (acons (bv 1 rfl (mm rfl)) (acons (bv 5 rfl (mm rfl)) (acons (bv 6 rfl (mm rfl)) anil))))))))) (sone (sret bb)) snil) (sone (sret (ball0 3 (acons (nle (nlc [("lot", 7)] [7, 1] [7] ["len"] (iT (bop bAdd (bv 3 rfl (mm rfl)) (bv 4 rfl (mm rfl)))) (by kernel_rfl) (by kernel_rfl) (gname 7 rfl (mm rfl)) tsnil (bcm bIn (blen0 0 (acons (nle (nlc [("thing", 8)] [8, 1] [8] [] (iT (bv 7 rfl (mm rfl))) (by kernel_rfl) (by kernel_rfl) (gname 8 rfl (mm rfl)) (tsone (tcm bIn (bv 8 rfl (mm rfl)) (bv 1 rfl (mm rfl)))) (bv 8 rfl (mm rfl)) (by decide))) anil) (fun _ => rfl) (fun _ => rfl) rfl) (btup (acons bi (acons (blen0 0 (acons (bv 7 rfl (mm rfl)) anil) (fun _ => rfl) (fun _ => rfl) rfl) anil)))) (by decide))) anil) (fun _ => rfl) (fun _ => rfl) rfl))))))
theorem df_takes_not_together (w : WOk W) : Df W 6 "takes_not_together" 2 F_takes_not_together := df_of (N := ["parts", "paper", "many", "one", "other", "x", "y", "lot", "thing"]) (ps := ["parts", "paper"]) w.bn (w.fns _ (mf 63 rfl)) (by decide +kernel) rfl rfl (by decide) (fun _ _ _ _ _ _ us hl => match us, hl with | [_, _], _ => rfl) (body_takes_not_together w)
def d_is_opened_board : Gs := (seqS (ifS (orT (notT (tb (c1 (consA (gD 0) nilA) F_is_whole))) (orT (notT (tb (c1 (consA (gD 1) nilA) F_is_whole))) (orT (tb (b2 (gD 0) (fun _ => some (.int 1)) (oB fun i j => decide (i < j)))) (orT (tb (b2 (gD 1) (fun _ => some (.int 1)) (oB fun i j => decide (i < j)))) (tb (b2 (b2 (gD 0) (gD 1) oMul) (fun _ => some (.int 40)) (oB fun i j => decide (j < i)))))))) (retS (fun _ => some (.bool false))) nextS) (retS (andV (c1 (consA (gD 2) nilA) F_are_wholes) (c1 (consA (lsV (lcV (itT (gD 2)) (setN 3) yesT (c1 (consA (b2 (gD 0) (gD 1) oMul) (consA (gD 3) nilA)) F_is_thing_of) [3])) nilA) oAll))))
def F_is_opened_board : List D → Option D := runS 3 4 d_is_opened_board
theorem body_is_opened_board (w : WOk W) : BSs ⟨W, 2, defScope (topS 91), ["high", "wide", "row", "spot"], [0, 1, 2], [0, 1, 2], ["is_whole", "MOST_THINGS_stores", "are_wholes", "all"], none⟩ (defBody (topS 91)) d_is_opened_board :=
  (scons (sif (tw (wor (tnot (tval (bcall 0 (df_is_whole w) runS_len (Nat.le_of_ble_eq_true rfl) rfl (acons (bv 0 rfl (mm rfl)) anil)))) (wor (tnot (tval (bcall 0 (df_is_whole w) runS_len (Nat.le_of_ble_eq_true rfl) rfl (acons (bv 1 rfl (mm rfl)) anil)))) (wor (tcm bLt (bv 0 rfl (mm rfl)) bi) (wor (tcm bLt (bv 1 rfl (mm rfl)) bi) (wor1 (tcm bGt (bop bMul (bv 0 rfl (mm rfl)) (bv 1 rfl (mm rfl))) (bgi 1 rfl w.i_MOST_THINGS_stores)))))))) (sone (sret bb)) snil) (sone (sret (band (bcall 2 (df_are_wholes w) runS_len (Nat.le_of_ble_eq_true rfl) rfl (acons (bv 2 rfl (mm rfl)) anil)) (bone (ball0 3 (acons (nle (nlc [("spot", 3)] [3, 0, 1] [3] ["is_thing_of"] (iT (bv 2 rfl (mm rfl))) (by kernel_rfl) (by kernel_rfl) (gname 3 rfl (mm rfl)) tsnil (bcall 0 (df_is_thing_of w) runS_len (Nat.le_of_ble_eq_true rfl) rfl (acons (bop bMul (bv 0 rfl (mm rfl)) (bv 1 rfl (mm rfl))) (acons (bv 3 rfl (mm rfl)) anil))) (by decide))) anil) (fun _ => rfl) (fun _ => rfl) rfl))))))
theorem df_is_opened_board (w : WOk W) : Df W 3 "is_opened_board" 3 F_is_opened_board := df_of (N := ["high", "wide", "row", "spot"]) (ps := ["high", "wide", "row"]) w.bn (w.fns _ (mf 67 rfl)) (by decide +kernel) rfl rfl (by decide) (fun _ _ _ _ _ _ us hl => match us, hl with | [_, _, _], _ => rfl) (body_is_opened_board w)
def d_is_line : Gs := (seqS (ifS (orT (tb (b2 (lenSetV (gD 1)) (c1 (consA (gD 1) nilA) oLen) (oEqD true))) (tb (b2 (gD 1) (tupV nilA) (oEqD false)))) (retS (fun _ => some (.bool false))) nextS) (seqS (forS (itR1 (consA (b2 (c1 (consA (gD 1) nilA) oLen) (fun _ => some (.int 1)) (oI fun i j => i - j)) nilA)) (setN 3) (seqS (asgS (c1 (consA (b2 (b2 (b2 (gD 1) (gD 3) oIx) (gD 0) (oIC cDiv fun i j => i / j)) (b2 (b2 (gD 1) (b2 (gD 3) (fun _ => some (.int 1)) oAdd) oIx) (gD 0) (oIC cDiv fun i j => i / j)) (oI fun i j => i - j)) nilA) oAbs) (setN 4)) (seqS (asgS (c1 (consA (b2 (b2 (b2 (gD 1) (gD 3) oIx) (gD 0) (oIC cMod fun i j => i % j)) (b2 (b2 (gD 1) (b2 (gD 3) (fun _ => some (.int 1)) oAdd) oIx) (gD 0) (oIC cMod fun i j => i % j)) (oI fun i j => i - j)) nilA) oAbs) (setN 5)) (ifS (andT (tb (b2 (b2 (gD 4) (gD 5) oAdd) (fun _ => some (.int 1)) (oEqD true))) (notT (andT (tb (gD 2)) (andT (tb (b2 (gD 4) (fun _ => some (.int 1)) (oEqD false))) (tb (b2 (gD 5) (fun _ => some (.int 1)) (oEqD false))))))) (retS (fun _ => some (.bool false))) nextS)))) (retS (fun _ => some (.bool true)))))
def F_is_line : List D → Option D := runS 3 6 d_is_line
theorem body_is_line (w : WOk W) : BSs ⟨W, 0, defScope (topS 92), ["wide", "line", "corners", "k", "down", "along"], [0, 1, 2, 3, 4, 5], [0, 1, 2, 3, 4, 5], ["len", "set", "range", "abs"], none⟩ (defBody (topS 92)) d_is_line :=
  (scons (sif (tw (wor (tcm bNe (blenSet 0 rfl 1 rfl (bv 1 rfl (mm rfl))) (blen0 0 (acons (bv 1 rfl (mm rfl)) anil) (fun _ => rfl) (fun _ => rfl) rfl)) (wor1 (tcm bEq (bv 1 rfl (mm rfl)) (btup anil))))) (sone (sret bb)) snil) (scons (sfor (iR1 2 rfl (acons (bop bSub (blen0 0 (acons (bv 1 rfl (mm rfl)) anil) (fun _ => rfl) (fun _ => rfl) rfl) bi) anil)) (gname 3 rfl (mm rfl)) (scons (sset 4 rfl (mm rfl) (babs0 3 (acons (bop bSub (bop bDiv (bix (bv 1 rfl (mm rfl)) (bv 3 rfl (mm rfl))) (bv 0 rfl (mm rfl))) (bop bDiv (bix (bv 1 rfl (mm rfl)) (bop bAdd (bv 3 rfl (mm rfl)) bi)) (bv 0 rfl (mm rfl)))) anil) (fun _ => rfl) (fun _ => rfl) rfl)) (scons (sset 5 rfl (mm rfl) (babs0 3 (acons (bop bSub (bop bMod (bix (bv 1 rfl (mm rfl)) (bv 3 rfl (mm rfl))) (bv 0 rfl (mm rfl))) (bop bMod (bix (bv 1 rfl (mm rfl)) (bop bAdd (bv 3 rfl (mm rfl)) bi)) (bv 0 rfl (mm rfl)))) anil) (fun _ => rfl) (fun _ => rfl) rfl)) (sone (sif (tw (wand (tcm bNe (bop bAdd (bv 4 rfl (mm rfl)) (bv 5 rfl (mm rfl))) bi) (wand1 (tnot (tw (wand (tval (bv 2 rfl (mm rfl))) (wand (tcm bEq (bv 4 rfl (mm rfl)) bi) (wand1 (tcm bEq (bv 5 rfl (mm rfl)) bi))))))))) (sone (sret bb)) snil))))) (sone (sret bb))))
theorem df_is_line (w : WOk W) : Df W 1 "is_line" 3 F_is_line := df_of (N := ["wide", "line", "corners", "k", "down", "along"]) (ps := ["wide", "line", "corners"]) w.bn (w.fns _ (mf 68 rfl)) (by decide +kernel) rfl rfl (by decide) (fun _ _ _ _ _ _ us hl => match us, hl with | [_, _, _], _ => rfl) (body_is_line w)
def d_is_open_road : Gs := (seqS (ifS (orT (notT (tb (c1 (consA (gD 3) nilA) F_are_wholes))) (orT (notT (tb (c1 (consA (lsV (lcV (itT (gD 3)) (setN 4) yesT (b2 (gD 4) (gD 2) (oIn false)) [4])) nilA) oAll))) (notT (tb (c1 (consA (gD 1) (consA (gD 3) (consA (fun _ => some (.bool false)) nilA))) F_is_line))))) (retS (fun _ => some (.bool false))) nextS) (retS (andV (b2 (b2 (b2 (gD 3) (fun _ => some (.int 0)) oIx) (gD 1) (oIC cDiv fun i j => i / j)) (fun _ => some (.int 0)) (oEqD false)) (b2 (b2 (b2 (gD 3) (b1 (fun _ => some (.int 1)) oNeg) oIx) (gD 1) (oIC cDiv fun i j => i / j)) (b2 (gD 0) (fun _ => some (.int 1)) (oI fun i j => i - j)) (oEqD false)))))
def F_is_open_road : List D → Option D := runS 4 5 d_is_open_road
theorem body_is_open_road (w : WOk W) : BSs ⟨W, 2, defScope (topS 93), ["high", "wide", "opened", "road", "spot"], [0, 1, 2, 3], [0, 1, 2, 3], ["are_wholes", "all", "is_line"], none⟩ (defBody (topS 93)) d_is_open_road :=
  (scons (sif (tw (wor (tnot (tval (bcall 0 (df_are_wholes w) runS_len (Nat.le_of_ble_eq_true rfl) rfl (acons (bv 3 rfl (mm rfl)) anil)))) (wor (tnot (tval (ball0 1 (acons (nle (nlc [("spot", 4)] [4, 2] [4] [] (iT (bv 3 rfl (mm rfl))) (by kernel_rfl) (by kernel_rfl) (gname 4 rfl (mm rfl)) tsnil (bcm bIn (bv 4 rfl (mm rfl)) (bv 2 rfl (mm rfl))) (by decide))) anil) (fun _ => rfl) (fun _ => rfl) rfl))) (wor1 (tnot (tval (bcall 2 (df_is_line w) runS_len (Nat.le_of_ble_eq_true rfl) rfl (acons (bv 1 rfl (mm rfl)) (acons (bv 3 rfl (mm rfl)) (acons bb anil)))))))))) (sone (sret bb)) snil) (sone (sret (band (bcm bEq (bop bDiv (bix (bv 3 rfl (mm rfl)) bi) (bv 1 rfl (mm rfl))) bi) (bone (bcm bEq (bop bDiv (bix (bv 3 rfl (mm rfl)) (bneg bi)) (bv 1 rfl (mm rfl))) (bop bSub (bv 0 rfl (mm rfl)) bi)))))))
theorem df_is_open_road (w : WOk W) : Df W 3 "is_open_road" 4 F_is_open_road := df_of (N := ["high", "wide", "opened", "road", "spot"]) (ps := ["high", "wide", "opened", "road"]) w.bn (w.fns _ (mf 69 rfl)) (by decide +kernel) rfl rfl (by decide) (fun _ _ _ _ _ _ us hl => match us, hl with | [_, _, _, _], _ => rfl) (body_is_open_road w)
def d_is_wall : Gs := (seqS (ifS (orT (notT (tb (c1 (consA (gD 3) nilA) F_are_wholes))) (notT (tb (c1 (consA (lsV (lcV (itT (gD 3)) (setN 4) yesT (c1 (consA (b2 (gD 0) (gD 1) oMul) (consA (gD 4) nilA)) F_is_thing_of) [4])) nilA) oAll)))) (retS (fun _ => some (.bool false))) nextS) (seqS (ifS (orT (tb (c1 (consA (lsV (lcV (itT (gD 3)) (setN 4) yesT (b2 (gD 4) (gD 2) (oIn false)) [4])) nilA) oAny)) (notT (tb (c1 (consA (gD 1) (consA (gD 3) (consA (fun _ => some (.bool true)) nilA))) F_is_line)))) (retS (fun _ => some (.bool false))) nextS) (retS (andV (b2 (b2 (b2 (gD 3) (fun _ => some (.int 0)) oIx) (gD 1) (oIC cMod fun i j => i % j)) (fun _ => some (.int 0)) (oEqD false)) (b2 (b2 (b2 (gD 3) (b1 (fun _ => some (.int 1)) oNeg) oIx) (gD 1) (oIC cMod fun i j => i % j)) (b2 (gD 1) (fun _ => some (.int 1)) (oI fun i j => i - j)) (oEqD false))))))
def F_is_wall : List D → Option D := runS 4 5 d_is_wall
theorem body_is_wall (w : WOk W) : BSs ⟨W, 2, defScope (topS 94), ["high", "wide", "opened", "wall", "spot"], [0, 1, 2, 3], [0, 1, 2, 3], ["are_wholes", "all", "any", "is_line"], none⟩ (defBody (topS 94)) d_is_wall :=
  (scons (sif (tw (wor (tnot (tval (bcall 0 (df_are_wholes w) runS_len (Nat.le_of_ble_eq_true rfl) rfl (acons (bv 3 rfl (mm rfl)) anil)))) (wor1 (tnot (tval (ball0 1 (acons (nle (nlc [("spot", 4)] [4, 0, 1] [4] ["is_thing_of"] (iT (bv 3 rfl (mm rfl))) (by kernel_rfl) (by kernel_rfl) (gname 4 rfl (mm rfl)) tsnil (bcall 0 (df_is_thing_of w) runS_len (Nat.le_of_ble_eq_true rfl) rfl (acons (bop bMul (bv 0 rfl (mm rfl)) (bv 1 rfl (mm rfl))) (acons (bv 4 rfl (mm rfl)) anil))) (by decide))) anil) (fun _ => rfl) (fun _ => rfl) rfl)))))) (sone (sret bb)) snil) (scons (sif (tw (wor (tval (bany0 2 (acons (nle (nlc [("spot", 4)] [4, 2] [4] [] (iT (bv 3 rfl (mm rfl))) (by kernel_rfl) (by kernel_rfl) (gname 4 rfl (mm rfl)) tsnil (bcm bIn (bv 4 rfl (mm rfl)) (bv 2 rfl (mm rfl))) (by decide))) anil) (fun _ => rfl) (fun _ => rfl) rfl)) (wor1 (tnot (tval (bcall 3 (df_is_line w) runS_len (Nat.le_of_ble_eq_true rfl) rfl (acons (bv 1 rfl (mm rfl)) (acons (bv 3 rfl (mm rfl)) (acons bb anil))))))))) (sone (sret bb)) snil) (sone (sret (band (bcm bEq (bop bMod (bix (bv 3 rfl (mm rfl)) bi) (bv 1 rfl (mm rfl))) bi) (bone (bcm bEq (bop bMod (bix (bv 3 rfl (mm rfl)) (bneg bi)) (bv 1 rfl (mm rfl))) (bop bSub (bv 1 rfl (mm rfl)) bi))))))))
theorem df_is_wall (w : WOk W) : Df W 3 "is_wall" 4 F_is_wall := df_of (N := ["high", "wide", "opened", "wall", "spot"]) (ps := ["high", "wide", "opened", "wall"]) w.bn (w.fns _ (mf 70 rfl)) (by decide +kernel) rfl rfl (by decide) (fun _ _ _ _ _ _ us hl => match us, hl with | [_, _, _, _], _ => rfl) (body_is_wall w)
def d_takes_through : Gs := (seqS (asgS (gD 0) (tupG 4 (consG (setN 2) (consG (setN 3) (consG (setN 4) (consG (setN 5) nilG)))))) (seqS (ifS (orT (notT (tb (c1 (consA (gD 2) (consA (gD 3) (consA (gD 4) nilA))) F_is_opened_board))) (orT (notT (tb (c1 (consA (gD 5) nilA) F_is_whole))) (notT (tb (chV (fun _ => some (.int 1)) (gD 5) (c1 (consA (gD 4) nilA) oLen) (oB fun i j => decide (i ≤ j)) (oB fun i j => decide (i ≤ j))))))) (retS (fun _ => some (.bool false))) nextS) (seqS (ifS (orT (notT (tb (b1 (gD 1) (oIsi "tuple")))) (tb (b2 (c1 (consA (gD 1) nilA) oLen) (fun _ => some (.int 2)) (oEqD true)))) (retS (fun _ => some (.bool false))) nextS) (retS (andV (c1 (consA (gD 2) (consA (gD 3) (consA (slV (gD 4) noP (someP (gD 5)) oSlT) (consA (b2 (gD 1) (fun _ => some (.int 0)) oIx) nilA)))) F_is_open_road) (c1 (consA (gD 2) (consA (gD 3) (consA (slV (gD 4) noP (someP (b2 (gD 5) (fun _ => some (.int 1)) (oI fun i j => i - j))) oSlT) (consA (b2 (gD 1) (fun _ => some (.int 1)) oIx) nilA)))) F_is_wall))))))
def F_takes_through : List D → Option D := runS 2 6 d_takes_through
theorem body_takes_through (w : WOk W) : BSs ⟨W, 3, defScope (topS 95), ["parts", "paper", "high", "wide", "row", "moment"], [0, 1, 2, 3, 4, 5], [0, 1, 2, 3, 4, 5], ["is_opened_board", "is_whole", "len", "isinstance", "tuple", "is_open_road", "is_wall"], none⟩ (defBody (topS 95)) d_takes_through :=
  (scons (sasg (bv 0 rfl (mm rfl)) (gtup (n := 4) (gcons (gname 2 rfl (mm rfl)) (gcons (gname 3 rfl (mm rfl)) (gcons (gname 4 rfl (mm rfl)) (gcons (gname 5 rfl (mm rfl)) gnil)))))) (scons (sif (tw (wor (tnot (tval (bcall 0 (df_is_opened_board w) runS_len (Nat.le_of_ble_eq_true rfl) rfl (acons (bv 2 rfl (mm rfl)) (acons (bv 3 rfl (mm rfl)) (acons (bv 4 rfl (mm rfl)) anil)))))) (wor (tnot (tval (bcall 1 (df_is_whole w) runS_len (Nat.le_of_ble_eq_true rfl) rfl (acons (bv 5 rfl (mm rfl)) anil)))) (wor1 (tnot (tch bLe bLe bi (bv 5 rfl (mm rfl)) (blen0 2 (acons (bv 4 rfl (mm rfl)) anil) (fun _ => rfl) (fun _ => rfl) rfl))))))) (sone (sret bb)) snil) (scons (sif (tw (wor (tnot (tval (bisi (T' := "tuple") 3 rfl 4 rfl (bv 1 rfl (mm rfl)) (by decide) rfl (by decide)))) (wor1 (tcm bNe (blen0 2 (acons (bv 1 rfl (mm rfl)) anil) (fun _ => rfl) (fun _ => rfl) rfl) bi)))) (sone (sret bb)) snil) (sone (sret (band (bcall 5 (df_is_open_road w) runS_len (Nat.le_of_ble_eq_true rfl) rfl (acons (bv 2 rfl (mm rfl)) (acons (bv 3 rfl (mm rfl)) (acons (bslT (bv 4 rfl (mm rfl)) pno (psome (bv 5 rfl (mm rfl)))) (acons (bix (bv 1 rfl (mm rfl)) bi) anil))))) (bone (bcall 6 (df_is_wall w) runS_len (Nat.le_of_ble_eq_true rfl) rfl (acons (bv 2 rfl (mm rfl)) (acons (bv 3 rfl (mm rfl)) (acons (bslT (bv 4 rfl (mm rfl)) pno (psome (bop bSub (bv 5 rfl (mm rfl)) bi))) (acons (bix (bv 1 rfl (mm rfl)) bi) anil))))))))))))
theorem df_takes_through (w : WOk W) : Df W 4 "takes_through" 2 F_takes_through := df_of (N := ["parts", "paper", "high", "wide", "row", "moment"]) (ps := ["parts", "paper"]) w.bn (w.fns _ (mf 71 rfl)) (by decide +kernel) rfl rfl (by decide) (fun _ _ _ _ _ _ us hl => match us, hl with | [_, _], _ => rfl) (body_takes_through w)
def d_takes_shut : Gs := (seqS (asgS (gD 0) (tupG 3 (consG (setN 2) (consG (setN 3) (consG (setN 4) nilG))))) (retS (andV (c1 (consA (gD 2) (consA (gD 3) (consA (gD 4) nilA))) F_is_opened_board) (c1 (consA (gD 2) (consA (gD 3) (consA (gD 4) (consA (gD 1) nilA)))) F_is_wall))))
def F_takes_shut : List D → Option D := runS 2 5 d_takes_shut
theorem body_takes_shut (w : WOk W) : BSs ⟨W, 3, defScope (topS 96), ["parts", "paper", "high", "wide", "row"], [0, 1, 2, 3, 4], [0, 1, 2, 3, 4], ["is_opened_board", "is_wall"], none⟩ (defBody (topS 96)) d_takes_shut :=
  (scons (sasg (bv 0 rfl (mm rfl)) (gtup (n := 3) (gcons (gname 2 rfl (mm rfl)) (gcons (gname 3 rfl (mm rfl)) (gcons (gname 4 rfl (mm rfl)) gnil))))) (sone (sret (band (bcall 0 (df_is_opened_board w) runS_len (Nat.le_of_ble_eq_true rfl) rfl (acons (bv 2 rfl (mm rfl)) (acons (bv 3 rfl (mm rfl)) (acons (bv 4 rfl (mm rfl)) anil)))) (bone (bcall 1 (df_is_wall w) runS_len (Nat.le_of_ble_eq_true rfl) rfl (acons (bv 2 rfl (mm rfl)) (acons (bv 3 rfl (mm rfl)) (acons (bv 4 rfl (mm rfl)) (acons (bv 1 rfl (mm rfl)) anil))))))))))
theorem df_takes_shut (w : WOk W) : Df W 4 "takes_shut" 2 F_takes_shut := df_of (N := ["parts", "paper", "high", "wide", "row"]) (ps := ["parts", "paper"]) w.bn (w.fns _ (mf 72 rfl)) (by decide +kernel) rfl rfl (by decide) (fun _ _ _ _ _ _ us hl => match us, hl with | [_, _], _ => rfl) (body_takes_shut w)
end Qd
end
section
set_option Elab.async false
set_option linter.all false
set_option autoImplicit false
set_option maxRecDepth 100000
set_option maxHeartbeats 4000000
namespace Qd
open PySem
open PySem.Spec
open PyProof.Rows
open L2
variable {W : Wd}
def d_beside : Gs := (seqS (ownS 3 (lstV nilA)) (seqS (ifS (tb (b2 (b2 (gD 2) (gD 1) (oIC cMod fun i j => i % j)) (fun _ => some (.int 0)) (oB fun i j => decide (j < i)))) (appS 3 (b2 (gD 2) (fun _ => some (.int 1)) (oI fun i j => i - j))) nextS) (seqS (ifS (tb (b2 (b2 (gD 2) (gD 1) (oIC cMod fun i j => i % j)) (b2 (gD 1) (fun _ => some (.int 1)) (oI fun i j => i - j)) (oB fun i j => decide (i < j)))) (appS 3 (b2 (gD 2) (fun _ => some (.int 1)) oAdd)) nextS) (seqS (ifS (tb (b2 (gD 2) (gD 1) (oB fun i j => decide (j ≤ i)))) (appS 3 (b2 (gD 2) (gD 1) (oI fun i j => i - j))) nextS) (seqS (ifS (tb (b2 (gD 2) (b2 (b2 (gD 0) (fun _ => some (.int 1)) (oI fun i j => i - j)) (gD 1) oMul) (oB fun i j => decide (i < j)))) (appS 3 (b2 (gD 2) (gD 1) oAdd)) nextS) (frzS 3 (retS (gD 3))))))))
def F_beside : List D → Option D := runS 3 4 d_beside
theorem body_beside (w : WOk W) : BSs ⟨W, 0, defScope (topS 102), ["high", "wide", "spot", "found"], [0, 1, 2, 3], [0, 1, 2, 3], [], none⟩ (defBody (topS 102)) d_beside :=
  (scons (sown (aN 3 rfl (mm rfl) (nlst anil))) (scons (sif (tcm bGt (bop bMod (bv 2 rfl (mm rfl)) (bv 1 rfl (mm rfl))) bi) (sone (sapp 3 rfl (mm rfl) (bop bSub (bv 2 rfl (mm rfl)) bi))) snil) (scons (sif (tcm bLt (bop bMod (bv 2 rfl (mm rfl)) (bv 1 rfl (mm rfl))) (bop bSub (bv 1 rfl (mm rfl)) bi)) (sone (sapp 3 rfl (mm rfl) (bop bAdd (bv 2 rfl (mm rfl)) bi))) snil) (scons (sif (tcm bGe (bv 2 rfl (mm rfl)) (bv 1 rfl (mm rfl))) (sone (sapp 3 rfl (mm rfl) (bop bSub (bv 2 rfl (mm rfl)) (bv 1 rfl (mm rfl))))) snil) (scons (sif (tcm bLt (bv 2 rfl (mm rfl)) (bop bMul (bop bSub (bv 0 rfl (mm rfl)) bi) (bv 1 rfl (mm rfl)))) (sone (sapp 3 rfl (mm rfl) (bop bAdd (bv 2 rfl (mm rfl)) (bv 1 rfl (mm rfl))))) snil) (sfrz 3 (sone (sret (bv 3 rfl (mm rfl))))))))))
theorem df_beside (w : WOk W) : Df W 1 "beside" 3 F_beside := df_of (N := ["high", "wide", "spot", "found"]) (ps := ["high", "wide", "spot"]) w.bn (w.fns _ (mf 74 rfl)) (by decide +kernel) rfl rfl (by decide) (fun _ _ _ _ _ _ us hl => match us, hl with | [_, _, _], _ => rfl) (body_beside w)
def d_check_sides : Gs := (seqS (ifS (orT (notT (tb (c1 (consA (b2 (fun _ => some (.int 40)) (fun _ => some (.int 1)) oAdd) (consA (gD 0) nilA)) F_is_thing))) (notT (tb (c1 (consA (b2 (fun _ => some (.int 40)) (fun _ => some (.int 1)) oAdd) (consA (gD 1) nilA)) F_is_thing)))) neverS nextS) (ifS (notT (tb (chV (fun _ => some (.int 1)) (b2 (gD 0) (gD 1) oMul) (fun _ => some (.int 40)) (oB fun i j => decide (i ≤ j)) (oB fun i j => decide (i ≤ j))))) neverS nextS))
def F_check_sides : List D → Option D := runS 2 2 d_check_sides
theorem body_check_sides (w : WOk W) : BSs ⟨W, 1, defScope (topS 105), ["high", "wide"], [0, 1], [0, 1], ["is_thing", "MOST_SPOTS", "NoBoard"], none⟩ (defBody (topS 105)) d_check_sides :=
  (scons (sif (tw (wor (tnot (tval (bcall 0 (df_is_thing w) runS_len (Nat.le_of_ble_eq_true rfl) rfl (acons (bop bAdd (bgi 1 rfl w.i_MOST_SPOTS) bi) (acons (bv 0 rfl (mm rfl)) anil))))) (wor1 (tnot (tval (bcall 0 (df_is_thing w) runS_len (Nat.le_of_ble_eq_true rfl) rfl (acons (bop bAdd (bgi 1 rfl w.i_MOST_SPOTS) bi) (acons (bv 1 rfl (mm rfl)) anil)))))))) ssnever snil) (sone (sif (tnot (tch bLe bLe bi (bop bMul (bv 0 rfl (mm rfl)) (bv 1 rfl (mm rfl))) (bgi 1 rfl w.i_MOST_SPOTS))) ssnever snil)))
theorem df_check_sides (w : WOk W) : Df W 2 "check_sides" 2 F_check_sides := df_of (N := ["high", "wide"]) (ps := ["high", "wide"]) w.bn (w.fns _ (mf 76 rfl)) (by decide +kernel) rfl rfl (by decide) (fun _ _ _ _ _ _ us hl => match us, hl with | [_, _], _ => rfl) (body_check_sides w)
def d_around : Gs := (seqS (ownS 3 (lstV nilA)) (seqS (forS (itT (tupV (consA (b2 (b2 (gD 2) (gD 1) (oIC cDiv fun i j => i / j)) (fun _ => some (.int 1)) (oI fun i j => i - j)) (consA (b2 (gD 2) (gD 1) (oIC cDiv fun i j => i / j)) (consA (b2 (b2 (gD 2) (gD 1) (oIC cDiv fun i j => i / j)) (fun _ => some (.int 1)) oAdd) nilA))))) (setN 4) (forS (itT (tupV (consA (b2 (b2 (gD 2) (gD 1) (oIC cMod fun i j => i % j)) (fun _ => some (.int 1)) (oI fun i j => i - j)) (consA (b2 (gD 2) (gD 1) (oIC cMod fun i j => i % j)) (consA (b2 (b2 (gD 2) (gD 1) (oIC cMod fun i j => i % j)) (fun _ => some (.int 1)) oAdd) nilA))))) (setN 5) (ifS (andT (tb (chV (fun _ => some (.int 0)) (gD 4) (gD 0) (oB fun i j => decide (i ≤ j)) (oB fun i j => decide (i < j)))) (andT (tb (chV (fun _ => some (.int 0)) (gD 5) (gD 1) (oB fun i j => decide (i ≤ j)) (oB fun i j => decide (i < j)))) (tb (b2 (b2 (b2 (gD 4) (gD 1) oMul) (gD 5) oAdd) (gD 2) (oEqD true))))) (appS 3 (b2 (b2 (gD 4) (gD 1) oMul) (gD 5) oAdd)) nextS))) (frzS 3 (retS (gD 3)))))
def F_around : List D → Option D := runS 3 6 d_around
theorem body_around (w : WOk W) : BSs ⟨W, 0, defScope (topS 106), ["high", "wide", "spot", "found", "row", "column"], [0, 1, 2, 3, 4, 5], [0, 1, 2, 3, 4, 5], [], none⟩ (defBody (topS 106)) d_around :=
  (scons (sown (aN 3 rfl (mm rfl) (nlst anil))) (scons (sfor (iT (btup (acons (bop bSub (bop bDiv (bv 2 rfl (mm rfl)) (bv 1 rfl (mm rfl))) bi) (acons (bop bDiv (bv 2 rfl (mm rfl)) (bv 1 rfl (mm rfl))) (acons (bop bAdd (bop bDiv (bv 2 rfl (mm rfl)) (bv 1 rfl (mm rfl))) bi) anil))))) (gname 4 rfl (mm rfl)) (sone (sfor (iT (btup (acons (bop bSub (bop bMod (bv 2 rfl (mm rfl)) (bv 1 rfl (mm rfl))) bi) (acons (bop bMod (bv 2 rfl (mm rfl)) (bv 1 rfl (mm rfl))) (acons (bop bAdd (bop bMod (bv 2 rfl (mm rfl)) (bv 1 rfl (mm rfl))) bi) anil))))) (gname 5 rfl (mm rfl)) (sone (sif (tw (wand (tch bLe bLt bi (bv 4 rfl (mm rfl)) (bv 0 rfl (mm rfl))) (wand (tch bLe bLt bi (bv 5 rfl (mm rfl)) (bv 1 rfl (mm rfl))) (wand1 (tcm bNe (bop bAdd (bop bMul (bv 4 rfl (mm rfl)) (bv 1 rfl (mm rfl))) (bv 5 rfl (mm rfl))) (bv 2 rfl (mm rfl))))))) (sone (sapp 3 rfl (mm rfl) (bop bAdd (bop bMul (bv 4 rfl (mm rfl)) (bv 1 rfl (mm rfl))) (bv 5 rfl (mm rfl))))) snil))))) (sfrz 3 (sone (sret (bv 3 rfl (mm rfl)))))))
theorem df_around (w : WOk W) : Df W 1 "around" 3 F_around := df_of (N := ["high", "wide", "spot", "found", "row", "column"]) (ps := ["high", "wide", "spot"]) w.bn (w.fns _ (mf 77 rfl)) (by decide +kernel) rfl rfl (by decide) (fun _ _ _ _ _ _ us hl => match us, hl with | [_, _, _], _ => rfl) (body_around w)
def d_children_of_shapes : Gs := (retS (lsV (lcV (itR1 (consA (c1 (consA (gD 0) nilA) oLen) nilA)) (setN 1) yesT (lsV (lcV (itR1 (consA (c1 (consA (gD 0) nilA) oLen) nilA)) (setN 2) (andT (tb (b2 (b2 (gD 0) (gD 2) oIx) (gD 1) (oEqD false))) (tb (b2 (gD 2) (gD 1) (oEqD true)))) (gD 2) [2])) [1])))
def F_children_of_shapes : List D → Option D := runS 1 3 d_children_of_shapes
theorem body_children_of_shapes (w : WOk W) : BSs ⟨W, 0, defScope (topS 112), ["ups", "thing", "x"], [0], [0], ["range", "len"], none⟩ (defBody (topS 112)) d_children_of_shapes :=
  (sone (sret (nle (nlc [("thing", 1)] [1, 0] [1] ["range", "len"] (iR1 0 rfl (acons (blen0 1 (acons (bv 0 rfl (mm rfl)) anil) (fun _ => rfl) (fun _ => rfl) rfl) anil)) (by kernel_rfl) (by kernel_rfl) (gname 1 rfl (mm rfl)) tsnil (nle (nlc [("x", 2)] [2, 1, 0] [2] [] (iR1 0 rfl (acons (blen0 1 (acons (bv 0 rfl (mm rfl)) anil) (fun _ => rfl) (fun _ => rfl) rfl) anil)) (by kernel_rfl) (by kernel_rfl) (gname 2 rfl (mm rfl)) (tsone (tw (wand (tcm bEq (bix (bv 0 rfl (mm rfl)) (bv 2 rfl (mm rfl))) (bv 1 rfl (mm rfl))) (wand1 (tcm bNe (bv 2 rfl (mm rfl)) (bv 1 rfl (mm rfl))))))) (bv 2 rfl (mm rfl)) (by decide))) (by decide)))))
theorem df_children_of_shapes (w : WOk W) : Df W 1 "children_of_shapes" 1 F_children_of_shapes := df_of (N := ["ups", "thing", "x"]) (ps := ["ups"]) w.bn (w.fns _ (mf 83 rfl)) (by decide +kernel) rfl rfl (by decide) (fun _ _ _ _ _ _ us hl => match us, hl with | [_], _ => rfl) (body_children_of_shapes w)
def d_sizes_of : Gs := (seqS (ownS 1 (repL (lstV (consA (fun _ => some (.int 0)) nilA)) (c1 (consA (gD 0) nilA) oLen))) (seqS (forS (itR1 (consA (c1 (consA (gD 0) nilA) oLen) nilA)) (setN 2) (seqS (asgS (gD 2) (setN 3)) (seqS (augLS 1 (gD 3) (fun i j => i + j) (fun _ => some (.int 1))) (whS (tb (b2 (b2 (gD 0) (gD 3) oIx) (gD 3) (oEqD true))) (seqS (asgS (b2 (gD 0) (gD 3) oIx) (setN 3)) (augLS 1 (gD 3) (fun i j => i + j) (fun _ => some (.int 1)))) 60)))) (frzS 1 (retS (gD 1)))))
def F_sizes_of : List D → Option D := runS 1 4 d_sizes_of
theorem body_sizes_of (w : WOk W) : BSs ⟨W, 0, defScope (topS 114), ["ups", "sizes", "x", "here"], [0, 1, 2, 3], [0, 1, 2, 3], ["len", "range"], none⟩ (defBody (topS 114)) d_sizes_of :=
  (scons (sown (aN 1 rfl (mm rfl) (nrep (nlst (acons bi anil)) (blen0 0 (acons (bv 0 rfl (mm rfl)) anil) (fun _ => rfl) (fun _ => rfl) rfl)))) (scons (sfor (iR1 1 rfl (acons (blen0 0 (acons (bv 0 rfl (mm rfl)) anil) (fun _ => rfl) (fun _ => rfl) rfl) anil)) (gname 2 rfl (mm rfl)) (scons (sset 3 rfl (mm rfl) (bv 2 rfl (mm rfl))) (scons (saugO 1 rfl (mm rfl) (bv 3 rfl (mm rfl)) bi) (sone (swh 60 (tcm bNe (bix (bv 0 rfl (mm rfl)) (bv 3 rfl (mm rfl))) (bv 3 rfl (mm rfl))) (scons (sset 3 rfl (mm rfl) (bix (bv 0 rfl (mm rfl)) (bv 3 rfl (mm rfl)))) (sone (saugO 1 rfl (mm rfl) (bv 3 rfl (mm rfl)) bi)))))))) (sfrz 1 (sone (sret (bv 1 rfl (mm rfl)))))))
theorem df_sizes_of (w : WOk W) : Df W 1 "sizes_of" 1 F_sizes_of := df_of (N := ["ups", "sizes", "x", "here"]) (ps := ["ups"]) w.bn (w.fns _ (mf 84 rfl)) (by decide +kernel) rfl rfl (by decide) (fun _ _ _ _ _ _ us hl => match us, hl with | [_], _ => rfl) (body_sizes_of w)
def d_steps_below_shapes : Gs := (seqS (ownS 1 (repL (lstV (consA (fun _ => some (.int 0)) nilA)) (c1 (consA (gD 0) nilA) oLen))) (seqS (forS (itR1 (consA (c1 (consA (gD 0) nilA) oLen) nilA)) (setN 2) (seqS (parS 3 4 (gD 2) (fun _ => some (.int 0))) (whS (tb (b2 (b2 (gD 0) (gD 3) oIx) (gD 3) (oEqD true))) (seqS (parS 3 4 (b2 (gD 0) (gD 3) oIx) (b2 (gD 4) (fun _ => some (.int 1)) oAdd)) (setS 1 (gD 3) (c1 (consA (ixO 1 (gD 3)) (consA (gD 4) nilA)) oMax2))) 60))) (frzS 1 (retS (gD 1)))))
def F_steps_below_shapes : List D → Option D := runS 1 5 d_steps_below_shapes
theorem body_steps_below_shapes (w : WOk W) : BSs ⟨W, 0, defScope (topS 115), ["ups", "deep", "x", "here", "steps"], [0, 1, 2, 3, 4], [0, 1, 2, 3, 4], ["len", "range", "max"], none⟩ (defBody (topS 115)) d_steps_below_shapes :=
  (scons (sown (aN 1 rfl (mm rfl) (nrep (nlst (acons bi anil)) (blen0 0 (acons (bv 0 rfl (mm rfl)) anil) (fun _ => rfl) (fun _ => rfl) rfl)))) (scons (sfor (iR1 1 rfl (acons (blen0 0 (acons (bv 0 rfl (mm rfl)) anil) (fun _ => rfl) (fun _ => rfl) rfl) anil)) (gname 2 rfl (mm rfl)) (scons (spar 3 4 rfl rfl rfl rfl rfl rfl (by decide) rfl rfl rfl (fun _ => rfl) (by decide) (bv 2 rfl (mm rfl)) bi (fun _ => rfl) (fun _ => rfl)) (sone (swh 60 (tcm bNe (bix (bv 0 rfl (mm rfl)) (bv 3 rfl (mm rfl))) (bv 3 rfl (mm rfl))) (scons (spar 3 4 rfl rfl rfl rfl rfl rfl (by decide) rfl rfl rfl (fun _ => rfl) (by decide) (bix (bv 0 rfl (mm rfl)) (bv 3 rfl (mm rfl))) (bop bAdd (bv 4 rfl (mm rfl)) bi) (fun _ => rfl) (fun _ => rfl)) (sone (ssetO 1 rfl (mm rfl) (bv 3 rfl (mm rfl)) (bmax0 2 (acons (oIxO 1 rfl (mm rfl) (bv 3 rfl (mm rfl))) (acons (bv 4 rfl (mm rfl)) anil)) (fun _ => rfl) (fun _ => rfl) rfl)))))))) (sfrz 1 (sone (sret (bv 1 rfl (mm rfl)))))))
theorem df_steps_below_shapes (w : WOk W) : Df W 1 "steps_below_shapes" 1 F_steps_below_shapes := df_of (N := ["ups", "deep", "x", "here", "steps"]) (ps := ["ups"]) w.bn (w.fns _ (mf 86 rfl)) (by decide +kernel) rfl rfl (by decide) (fun _ _ _ _ _ _ us hl => match us, hl with | [_], _ => rfl) (body_steps_below_shapes w)
def d_fits_by_size : Gs := (seqS (asgS (fun _ => some (.int 1)) (setN 1)) (seqS (forS (itL (gD 0)) (setN 2) (seqS (ifS (tb (b2 (gD 2) (gD 1) (oB fun i j => decide (j < i)))) (retS (fun _ => some (.bool false))) nextS) (augS 1 (gD 2) (oI fun i j => i + j)))) (retS (fun _ => some (.bool true)))))
def F_fits_by_size : List D → Option D := runS 1 3 d_fits_by_size
theorem body_fits_by_size (w : WOk W) : BSs ⟨W, 0, defScope (topS 117), ["sizes", "together", "size"], [0, 1, 2], [0, 1, 2], [], none⟩ (defBody (topS 117)) d_fits_by_size :=
  (scons (sset 1 rfl (mm rfl) bi) (scons (sfor (iL (bv 0 rfl (mm rfl))) (gname 2 rfl (mm rfl)) (scons (sif (tcm bGt (bv 2 rfl (mm rfl)) (bv 1 rfl (mm rfl))) (sone (sret bb)) snil) (sone (saugA 1 rfl (mm rfl) (bv 2 rfl (mm rfl)))))) (sone (sret bb))))
theorem df_fits_by_size (w : WOk W) : Df W 1 "fits_by_size" 1 F_fits_by_size := df_of (N := ["sizes", "together", "size"]) (ps := ["sizes"]) w.bn (w.fns _ (mf 87 rfl)) (by decide +kernel) rfl rfl (by decide) (fun _ _ _ _ _ _ us hl => match us, hl with | [_], _ => rfl) (body_fits_by_size w)
def d_can_have : Gs := (seqS (ifS (tb (b2 (gD 0) (fun _ => some (.str "size")) (oEqD false))) (retS (c1 (consA (lsV (cN (consA (lsV (lcV (itL (gD 2)) (setN 6) yesT (b2 (gD 3) (gD 6) oIx) [6])) nilA) oSorted)) nilA) F_fits_by_size)) nextS) (seqS (ifS (tb (b2 (gD 0) (fun _ => some (.str "rank")) (oEqD false))) (retS (c1 (consA (lsV (lcV (itR1 (consA (b2 (gD 4) (gD 1) oIx) nilA)) (setN 5) yesT (b2 (gD 5) (lsV (lcV (itL (gD 2)) (setN 6) yesT (b2 (gD 4) (gD 6) oIx) [6])) (oIn false)) [5])) nilA) oAll)) nextS) (retS (orV (b2 (gD 0) (fun _ => some (.str "told")) (oEqD false)) (c1 (consA (lsV (lcV (itL (gD 2)) (setN 6) yesT (b2 (gD 6) (gD 1) (oB fun i j => decide (j < i))) [6])) nilA) oAll)))))
def F_can_have : List D → Option D := runS 5 7 d_can_have
theorem body_can_have (w : WOk W) : BSs ⟨W, 1, defScope (topS 118), ["join", "thing", "children", "sizes", "deep", "steps", "x"], [0, 1, 2, 3, 4], [0, 1, 2, 3, 4], ["fits_by_size", "sorted", "all", "range"], none⟩ (defBody (topS 118)) d_can_have :=
  (scons (sif (tcm bEq (bv 0 rfl (mm rfl)) bs) (sone (sret (bcall 0 (df_fits_by_size w) runS_len (Nat.le_of_ble_eq_true rfl) rfl (acons (nle (nsort0 1 (acons (nle (nlc [("x", 6)] [6, 3] [6] [] (iL (bv 2 rfl (mm rfl))) (by kernel_rfl) (by kernel_rfl) (gname 6 rfl (mm rfl)) tsnil (bix (bv 3 rfl (mm rfl)) (bv 6 rfl (mm rfl))) (by decide))) anil) (fun _ => rfl) (fun _ => rfl) rfl)) anil)))) snil) (scons (sif (tcm bEq (bv 0 rfl (mm rfl)) bs) (sone (sret (ball0 2 (acons (nle (nlc [("steps", 5)] [5, 4, 2] [5] [] (iR1 3 rfl (acons (bix (bv 4 rfl (mm rfl)) (bv 1 rfl (mm rfl))) anil)) (by kernel_rfl) (by kernel_rfl) (gname 5 rfl (mm rfl)) tsnil (bcm bIn (bv 5 rfl (mm rfl)) (nle (nlc [("x", 6)] [6, 4] [6] [] (iL (bv 2 rfl (mm rfl))) (by kernel_rfl) (by kernel_rfl) (gname 6 rfl (mm rfl)) tsnil (bix (bv 4 rfl (mm rfl)) (bv 6 rfl (mm rfl))) (by decide)))) (by decide))) anil) (fun _ => rfl) (fun _ => rfl) rfl))) snil) (sone (sret (bor (bcm bEq (bv 0 rfl (mm rfl)) bs) (bone (ball0 2 (acons (nle (nlc [("x", 6)] [6, 1] [6] [] (iL (bv 2 rfl (mm rfl))) (by kernel_rfl) (by kernel_rfl) (gname 6 rfl (mm rfl)) tsnil (bcm bGt (bv 6 rfl (mm rfl)) (bv 1 rfl (mm rfl))) (by decide))) anil) (fun _ => rfl) (fun _ => rfl) rfl)))))))
theorem df_can_have (w : WOk W) : Df W 2 "can_have" 5 F_can_have := df_of (N := ["join", "thing", "children", "sizes", "deep", "steps", "x"]) (ps := ["join", "thing", "children", "sizes", "deep"]) w.bn (w.fns _ (mf 88 rfl)) (by decide +kernel) rfl rfl (by decide) (fun _ _ _ _ _ _ us hl => match us, hl with | [_, _, _, _, _], _ => rfl) (body_can_have w)
def d_joins_of : Gs := (seqS (asgS (ifV (tb (b2 (gD 0) (fun _ => some (.str "rank")) (oEqD false))) (gD 3) (gD 2)) (setN 4)) (seqS (asgS (c1 (consA (gD 1) nilA) F_children_of_shapes) (setN 5)) (seqS (ownS 6 (lstV nilA)) (seqS (forS (itL (lsV (cN (consA (lsV (lcV (itR1 (consA (c1 (consA (gD 1) nilA) oLen) nilA)) (setN 9) yesT (tupV (consA (b2 (gD 2) (gD 9) oIx) (consA (gD 9) nilA))) [9])) nilA) oSorted))) (tupG 2 (consG (setN 7) (consG (setN 8) nilG))) (extS 6 (lcV (itL (lsV (cN (consA (lsV (lcV (itL (b2 (gD 5) (gD 8) oIx)) (setN 9) yesT (tupV (consA (b2 (gD 4) (gD 9) oIx) (consA (gD 9) nilA))) [9])) nilA) oSorted))) (tupG 2 (consG (setN 10) (consG (setN 9) nilG))) yesT (tupV (consA (gD 8) (consA (gD 9) nilA))) [10, 9]))) (frzS 6 (retS (c1 (consA (gD 6) nilA) oTupOf)))))))
def F_joins_of : List D → Option D := runS 4 11 d_joins_of
theorem body_joins_of (w : WOk W) : BSs ⟨W, 1, defScope (topS 119), ["join", "ups", "sizes", "deep", "marks", "children", "row", "size", "thing", "x", "mark"], [0, 1, 2, 3, 4, 5, 6, 7, 8], [0, 1, 2, 3, 4, 5, 6, 7, 8], ["children_of_shapes", "sorted", "range", "len", "tuple"], none⟩ (defBody (topS 119)) d_joins_of :=
  (scons (sset 4 rfl (mm rfl) (bife (tcm bEq (bv 0 rfl (mm rfl)) bs) (bv 3 rfl (mm rfl)) (bv 2 rfl (mm rfl)))) (scons (sset 5 rfl (mm rfl) (bcall 0 (df_children_of_shapes w) runS_len (Nat.le_of_ble_eq_true rfl) rfl (acons (bv 1 rfl (mm rfl)) anil))) (scons (sown (aN 6 rfl (mm rfl) (nlst anil))) (scons (sfor (iL (nle (nsort0 1 (acons (nle (nlc [("x", 9)] [9, 2] [9] [] (iR1 2 rfl (acons (blen0 3 (acons (bv 1 rfl (mm rfl)) anil) (fun _ => rfl) (fun _ => rfl) rfl) anil)) (by kernel_rfl) (by kernel_rfl) (gname 9 rfl (mm rfl)) tsnil (btup (acons (bix (bv 2 rfl (mm rfl)) (bv 9 rfl (mm rfl))) (acons (bv 9 rfl (mm rfl)) anil))) (by decide))) anil) (fun _ => rfl) (fun _ => rfl) rfl))) (gtup (n := 2) (gcons (gname 7 rfl (mm rfl)) (gcons (gname 8 rfl (mm rfl)) gnil))) (sone (sext 6 rfl (mm rfl) (nlc [("mark", 10), ("x", 9)] [10, 9, 8] [10, 9] [] (iL (nle (nsort0 1 (acons (nle (nlc [("x", 9)] [9, 4] [9] [] (iL (bix (bv 5 rfl (mm rfl)) (bv 8 rfl (mm rfl)))) (by kernel_rfl) (by kernel_rfl) (gname 9 rfl (mm rfl)) tsnil (btup (acons (bix (bv 4 rfl (mm rfl)) (bv 9 rfl (mm rfl))) (acons (bv 9 rfl (mm rfl)) anil))) (by decide))) anil) (fun _ => rfl) (fun _ => rfl) rfl))) (by kernel_rfl) (by kernel_rfl) (gtup (n := 2) (gcons (gname 10 rfl (mm rfl)) (gcons (gname 9 rfl (mm rfl)) gnil))) tsnil (btup (acons (bv 8 rfl (mm rfl)) (acons (bv 9 rfl (mm rfl)) anil))) (by decide))))) (sfrz 6 (sone (sret (btup0 4 (acons (bv 6 rfl (mm rfl)) anil) (fun _ => rfl) (fun _ => rfl) rfl))))))))
theorem df_joins_of (w : WOk W) : Df W 2 "joins_of" 4 F_joins_of := df_of (N := ["join", "ups", "sizes", "deep", "marks", "children", "row", "size", "thing", "x", "mark"]) (ps := ["join", "ups", "sizes", "deep"]) w.bn (w.fns _ (mf 89 rfl)) (by decide +kernel) rfl rfl (by decide) (fun _ _ _ _ _ _ us hl => match us, hl with | [_, _, _, _], _ => rfl) (body_joins_of w)
def d_can_come : Gs := (seqS (exprS (c1 (consA (gD 0) nilA) F_check_join)) (seqS (exprS (c1 (consA (gD 1) nilA) F_check_forest)) (seqS (parS 4 5 (c1 (consA (gD 1) nilA) F_sizes_of) (c1 (consA (gD 1) nilA) F_steps_below_shapes)) (seqS (asgS (c1 (consA (gD 1) nilA) F_children_of_shapes) (setN 2)) (seqS (forS (itR1 (consA (c1 (consA (gD 1) nilA) oLen) nilA)) (setN 3) (ifS (notT (tb (c1 (consA (gD 0) (consA (gD 3) (consA (b2 (gD 2) (gD 3) oIx) (consA (gD 4) (consA (gD 5) nilA))))) F_can_have))) (retS (tupV (consA (fun _ => some (.str "never")) (consA (gD 3) nilA)))) nextS)) (retS (tupV (consA (fun _ => some (.str "comes")) (consA (c1 (consA (gD 0) (consA (gD 1) (consA (gD 4) (consA (gD 5) nilA)))) F_joins_of) nilA)))))))))
def F_can_come : List D → Option D := runS 2 6 d_can_come
theorem body_can_come (w : WOk W) : BSs ⟨W, 3, defScope (topS 120), ["join", "ups", "children", "thing", "sizes", "deep"], [0, 1, 2, 3, 4, 5], [0, 1, 2, 3, 4, 5], ["check_join", "check_forest", "sizes_of", "steps_below_shapes", "children_of_shapes", "range", "len", "can_have", "joins_of"], none⟩ (defBody (topS 120)) d_can_come :=
  (scons (sexpr (bcall 0 (df_check_join w) runS_len (Nat.le_of_ble_eq_true rfl) rfl (acons (bv 0 rfl (mm rfl)) anil))) (scons (sexpr (bcall 1 (df_check_forest w) runS_len (Nat.le_of_ble_eq_true rfl) rfl (acons (bv 1 rfl (mm rfl)) anil))) (scons (spar 4 5 rfl rfl rfl rfl rfl rfl (by decide) rfl rfl rfl (fun _ => rfl) (by decide) (bcall 2 (df_sizes_of w) runS_len (Nat.le_of_ble_eq_true rfl) rfl (acons (bv 1 rfl (mm rfl)) anil)) (bcall 3 (df_steps_below_shapes w) runS_len (Nat.le_of_ble_eq_true rfl) rfl (acons (bv 1 rfl (mm rfl)) anil)) (fun _ => rfl) (fun _ => rfl)) (scons (sset 2 rfl (mm rfl) (bcall 4 (df_children_of_shapes w) runS_len (Nat.le_of_ble_eq_true rfl) rfl (acons (bv 1 rfl (mm rfl)) anil))) (scons (sfor (iR1 5 rfl (acons (blen0 6 (acons (bv 1 rfl (mm rfl)) anil) (fun _ => rfl) (fun _ => rfl) rfl) anil)) (gname 3 rfl (mm rfl)) (sone (sif (tnot (tval (bcall 7 (df_can_have w) runS_len (Nat.le_of_ble_eq_true rfl) rfl (acons (bv 0 rfl (mm rfl)) (acons (bv 3 rfl (mm rfl)) (acons (bix (bv 2 rfl (mm rfl)) (bv 3 rfl (mm rfl))) (acons (bv 4 rfl (mm rfl)) (acons (bv 5 rfl (mm rfl)) anil)))))))) (sone (sret (btup (acons bs (acons (bv 3 rfl (mm rfl)) anil))))) snil))) (sone (sret (btup (acons bs (acons (bcall 8 (df_joins_of w) runS_len (Nat.le_of_ble_eq_true rfl) rfl (acons (bv 0 rfl (mm rfl)) (acons (bv 1 rfl (mm rfl)) (acons (bv 4 rfl (mm rfl)) (acons (bv 5 rfl (mm rfl)) anil))))) anil))))))))))
theorem df_can_come (w : WOk W) : Df W 4 "can_come" 2 F_can_come := df_of (N := ["join", "ups", "children", "thing", "sizes", "deep"]) (ps := ["join", "ups"]) w.bn (w.fns _ (mf 90 rfl)) (by decide +kernel) rfl rfl (by decide) (fun _ _ _ _ _ _ us hl => match us, hl with | [_, _], _ => rfl) (body_can_come w)
def d_law_cell : Gs := (seqS (ifS (tb (b2 (gD 1) (c1 (consA (gD 0) nilA) oLen) (oB fun i j => decide (i < j)))) (retS (b2 (gD 0) (gD 1) oIx)) nextS) (seqS (asgS (b2 (b2 (fun _ => some (.int 48271)) (b2 (b2 (b2 (gD 1) (gD 1) oMul) (b2 (fun _ => some (.int 7)) (gD 1) oMul) oAdd) (fun _ => some (.int 11)) oAdd) oMul) (fun _ => some (.int 2147483647)) (oIC cMod fun i j => i % j)) (setN 2)) (seqS (forS (itL (lsV (slV (gD 0) noP (someP (fun _ => some (.int 3))) oSlL))) (setN 3) (asgS (b2 (b2 (b2 (gD 2) (fun _ => some (.int 69621)) oMul) (gD 3) oAdd) (fun _ => some (.int 2147483647)) (oIC cMod fun i j => i % j)) (setN 2))) (retS (gD 2)))))
def F_law_cell : List D → Option D := runS 2 4 d_law_cell
theorem body_law_cell (w : WOk W) : BSs ⟨W, 0, defScope (topS 124), ["_law_script", "_law_k", "_law_state", "_law_cell_here"], [0, 1, 2, 3], [0, 1, 2, 3], ["len"], none⟩ (defBody (topS 124)) d_law_cell :=
  (scons (sif (tcm bLt (bv 1 rfl (mm rfl)) (blen0 0 (acons (bv 0 rfl (mm rfl)) anil) (fun _ => rfl) (fun _ => rfl) rfl)) (sone (sret (bix (bv 0 rfl (mm rfl)) (bv 1 rfl (mm rfl))))) snil) (scons (sset 2 rfl (mm rfl) (bop bMod (bop bMul bi (bop bAdd (bop bAdd (bop bMul (bv 1 rfl (mm rfl)) (bv 1 rfl (mm rfl))) (bop bMul bi (bv 1 rfl (mm rfl)))) bi)) bi)) (scons (sfor (iL (nle (nslL (bv 0 rfl (mm rfl)) pno (psome bi)))) (gname 3 rfl (mm rfl)) (sone (sset 2 rfl (mm rfl) (bop bMod (bop bAdd (bop bMul (bv 2 rfl (mm rfl)) bi) (bv 3 rfl (mm rfl))) bi)))) (sone (sret (bv 2 rfl (mm rfl)))))))
theorem df_law_cell (w : WOk W) : Df W 1 "_law_cell" 2 F_law_cell := df_of (N := ["_law_script", "_law_k", "_law_state", "_law_cell_here"]) (ps := ["_law_script", "_law_k"]) w.bn (w.fns _ (mf 92 rfl)) (by decide +kernel) rfl rfl (by decide) (fun _ _ _ _ _ _ us hl => match us, hl with | [_, _], _ => rfl) (body_law_cell w)
def d_law_numbers : Gs := (seqS (ownS 2 (lstV nilA)) (seqS (asgS (b2 (b2 (b2 (b2 (gD 0) (fun _ => some (.int 1999999973)) (oIC cMod fun i j => i % j)) (fun _ => some (.int 31)) oAdd) (fun _ => some (.int 765432101)) oMul) (fun _ => some (.int 1999999973)) (oIC cMod fun i j => i % j)) (setN 3)) (seqS (asgS (fun _ => some (.int 0)) (setN 4)) (seqS (ifS (orT (tb (b2 (gD 0) (fun _ => some (.int 0)) (oB fun i j => decide (i < j)))) (tb (b2 (gD 0) (b2 (fun _ => some (.int 10)) (fun _ => some (.int 18)) (oIC cPow fun i j => i ^ j.toNat)) (oB fun i j => decide (j ≤ i))))) (asgS (c1 (consA (gD 0) nilA) oAbs) (setN 4)) nextS) (seqS (forS (itR1 (consA (gD 1) nilA)) (setN 5) (seqS (asgS (b2 (b2 (b2 (b2 (gD 3) (b2 (b2 (gD 3) (fun _ => some (.int 65521)) (oIC cMod fun i j => i % j)) (fun _ => some (.int 40487)) oAdd) oMul) (b2 (fun _ => some (.int 7)) (gD 5) oMul) oAdd) (fun _ => some (.int 5)) oAdd) (fun _ => some (.int 1999999973)) (oIC cMod fun i j => i % j)) (setN 3)) (seqS (appS 2 (b2 (lsV (lstV (consA (gD 3) (consA (b2 (gD 4) (fun _ => some (.int 1000000)) (oIC cMod fun i j => i % j)) nilA)))) (c1 (consA (b2 (gD 4) (fun _ => some (.int 0)) (oB fun i j => decide (j < i))) nilA) oInt) oIx)) (asgS (b2 (gD 4) (fun _ => some (.int 1000000)) (oIC cDiv fun i j => i / j)) (setN 4))))) (frzS 2 (retS (gD 2))))))))
def F_law_numbers : List D → Option D := runS 2 6 d_law_numbers
theorem body_law_numbers (w : WOk W) : BSs ⟨W, 0, defScope (topS 125), ["_law_cell_here", "_law_many", "_law_some", "_law_state", "_law_digits", "_law_k"], [0, 1, 2, 3, 4, 5], [0, 1, 2, 3, 4, 5], ["abs", "range", "int"], none⟩ (defBody (topS 125)) d_law_numbers :=
  (scons (sown (aN 2 rfl (mm rfl) (nlst anil))) (scons (sset 3 rfl (mm rfl) (bop bMod (bop bMul (bop bAdd (bop bMod (bv 0 rfl (mm rfl)) bi) bi) bi) bi)) (scons (sset 4 rfl (mm rfl) bi) (scons (sif (tw (wor (tcm bLt (bv 0 rfl (mm rfl)) bi) (wor1 (tcm bGe (bv 0 rfl (mm rfl)) (bop bPow bi bi))))) (sone (sset 4 rfl (mm rfl) (babs0 0 (acons (bv 0 rfl (mm rfl)) anil) (fun _ => rfl) (fun _ => rfl) rfl))) snil) (scons (sfor (iR1 1 rfl (acons (bv 1 rfl (mm rfl)) anil)) (gname 5 rfl (mm rfl)) (scons (sset 3 rfl (mm rfl) (bop bMod (bop bAdd (bop bAdd (bop bMul (bv 3 rfl (mm rfl)) (bop bAdd (bop bMod (bv 3 rfl (mm rfl)) bi) bi)) (bop bMul bi (bv 5 rfl (mm rfl)))) bi) bi)) (scons (sapp 2 rfl (mm rfl) (bix (nle (nlst (acons (bv 3 rfl (mm rfl)) (acons (bop bMod (bv 4 rfl (mm rfl)) bi) anil)))) (bint0 2 (acons (bcm bGt (bv 4 rfl (mm rfl)) bi) anil) (fun _ => rfl) (fun _ => rfl) rfl))) (sone (sset 4 rfl (mm rfl) (bop bDiv (bv 4 rfl (mm rfl)) bi)))))) (sfrz 2 (sone (sret (bv 2 rfl (mm rfl))))))))))
theorem df_law_numbers (w : WOk W) : Df W 1 "_law_numbers" 2 F_law_numbers := df_of (N := ["_law_cell_here", "_law_many", "_law_some", "_law_state", "_law_digits", "_law_k"]) (ps := ["_law_cell_here", "_law_many"]) w.bn (w.fns _ (mf 93 rfl)) (by decide +kernel) rfl rfl (by decide) (fun _ _ _ _ _ _ us hl => match us, hl with | [_, _], _ => rfl) (body_law_numbers w)
end Qd
end
section
set_option Elab.async false
set_option linter.all false
set_option autoImplicit false
set_option maxRecDepth 100000
set_option maxHeartbeats 4000000
namespace Qd
open PySem
open PySem.Spec
open PyProof.Rows
open L2
variable {W : Wd}
def d_law_forest : Gs := (seqS (asgS (lsV (cN (consA (lsV (lcV (itR1 (consA (gD 1) nilA)) (setN 6) yesT (tupV (consA (b2 (b2 (gD 0) (gD 6) oIx) (fun _ => some (.int 9973)) (oIC cMod fun i j => i % j)) (consA (gD 6) nilA))) [6])) nilA) oSorted)) (setN 2)) (seqS (asgS (lsV (lcV (itL (gD 2)) (setN 8) yesT (b2 (gD 8) (fun _ => some (.int 1)) oIx) [8])) (setN 3)) (seqS (ownS 4 (lstRg (rg1 (gD 1)))) (seqS (asgS (b2 (b2 (gD 0) (gD 1) oIx) (fun _ => some (.int 5)) (oIC cMod fun i j => i % j)) (setN 5)) (seqS (forS (itR2 (consA (fun _ => some (.int 1)) (consA (gD 1) nilA))) (setN 6) (seqS (asgS (b2 (lsV (lstV (consA (b2 (b2 (b2 (gD 0) (b2 (gD 3) (gD 6) oIx) oIx) (fun _ => some (.int 9973)) (oIC cDiv fun i j => i / j)) (gD 6) (oIC cMod fun i j => i % j)) (consA (b2 (gD 6) (fun _ => some (.int 1)) (oI fun i j => i - j)) (consA (fun _ => some (.int 0)) (consA (gD 6) (consA (b2 (gD 6) (b2 (gD 6) (b2 (fun _ => some (.int 0)) (gD 6) (oI fun i j => i - j)) (oI fun i j => Builtin.bitAnd i j)) (oI fun i j => i - j)) nilA))))))) (gD 5) oIx) (setN 7)) (ifS (orT (tb (b2 (gD 5) (fun _ => some (.int 0)) (oEqD true))) (tb (b2 (b2 (b2 (b2 (gD 0) (b2 (gD 3) (gD 6) oIx) oIx) (fun _ => some (.int 1000)) (oIC cDiv fun i j => i / j)) (fun _ => some (.int 4)) (oIC cMod fun i j => i % j)) (fun _ => some (.int 0)) (oB fun i j => decide (j < i))))) (setS 4 (b2 (gD 3) (gD 6) oIx) (b2 (gD 3) (gD 7) oIx)) nextS))) (frzS 4 (retS (c1 (consA (gD 4) nilA) oTupOf))))))))
def F_law_forest : List D → Option D := runS 2 9 d_law_forest
theorem body_law_forest (w : WOk W) : BSs ⟨W, 0, defScope (topS 126), ["_law_xs", "_law_many", "_law_order", "_law_places", "_law_ups", "_law_kind", "_law_k", "_law_at", "_law_pair"], [0, 1, 2, 3, 4, 5, 6, 7], [0, 1, 2, 3, 4, 5, 6, 7], ["sorted", "range", "list", "tuple"], none⟩ (defBody (topS 126)) d_law_forest :=
  (scons (sset 2 rfl (mm rfl) (nle (nsort0 0 (acons (nle (nlc [("_law_k", 6)] [6, 0] [6] [] (iR1 1 rfl (acons (bv 1 rfl (mm rfl)) anil)) (by kernel_rfl) (by kernel_rfl) (gname 6 rfl (mm rfl)) tsnil (btup (acons (bop bMod (bix (bv 0 rfl (mm rfl)) (bv 6 rfl (mm rfl))) bi) (acons (bv 6 rfl (mm rfl)) anil))) (by decide))) anil) (fun _ => rfl) (fun _ => rfl) rfl))) (scons (sdat (aLc 3 [("_law_pair", 8)] [8] [8] [] rfl rfl rfl rfl (iL (bv 2 rfl (mm rfl))) (by kernel_rfl) (by kernel_rfl) (gname 8 rfl (mm rfl)) tsnil (bix (bv 8 rfl (mm rfl)) bi) (by decide))) (scons (sown (aN 4 rfl (mm rfl) (nlstRg 2 rfl (r1 1 rfl (bv 1 rfl (mm rfl)))))) (scons (sset 5 rfl (mm rfl) (bop bMod (bix (bv 0 rfl (mm rfl)) (bv 1 rfl (mm rfl))) bi)) (scons (sfor (iR2 1 rfl (acons bi (acons (bv 1 rfl (mm rfl)) anil))) (gname 6 rfl (mm rfl)) (scons (sset 7 rfl (mm rfl) (bix (nle (nlst (acons (bop bMod (bop bDiv (bix (bv 0 rfl (mm rfl)) (bix (bv 3 rfl (mm rfl)) (bv 6 rfl (mm rfl)))) bi) (bv 6 rfl (mm rfl))) (acons (bop bSub (bv 6 rfl (mm rfl)) bi) (acons bi (acons (bv 6 rfl (mm rfl)) (acons (bop bSub (bv 6 rfl (mm rfl)) (bop bAnd' (bv 6 rfl (mm rfl)) (bop bSub bi (bv 6 rfl (mm rfl))))) anil))))))) (bv 5 rfl (mm rfl)))) (sone (sif (tw (wor (tcm bNe (bv 5 rfl (mm rfl)) bi) (wor1 (tcm bGt (bop bMod (bop bDiv (bix (bv 0 rfl (mm rfl)) (bix (bv 3 rfl (mm rfl)) (bv 6 rfl (mm rfl)))) bi) bi) bi)))) (sone (ssetO 4 rfl (mm rfl) (bix (bv 3 rfl (mm rfl)) (bv 6 rfl (mm rfl))) (bix (bv 3 rfl (mm rfl)) (bv 7 rfl (mm rfl))))) snil)))) (sfrz 4 (sone (sret (btup0 3 (acons (bv 4 rfl (mm rfl)) anil) (fun _ => rfl) (fun _ => rfl) rfl)))))))))
theorem df_law_forest (w : WOk W) : Df W 1 "_law_forest" 2 F_law_forest := df_of (N := ["_law_xs", "_law_many", "_law_order", "_law_places", "_law_ups", "_law_kind", "_law_k", "_law_at", "_law_pair"]) (ps := ["_law_xs", "_law_many"]) w.bn (w.fns _ (mf 94 rfl)) (by decide +kernel) rfl rfl (by decide) (fun _ _ _ _ _ _ us hl => match us, hl with | [_, _], _ => rfl) (body_law_forest w)
def d_law_joins : Gs := (seqS (asgS (c1 (consA (c1 (consA (gD 0) (consA (gD 1) nilA)) F_law_cell) (consA (fun _ => some (.int 4)) nilA)) F_law_numbers) (setN 4)) (seqS (ownS 5 (lstV nilA)) (seqS (forS (itR1 (consA (b2 (b2 (gD 4) (fun _ => some (.int 0)) oIx) (b2 (gD 3) (fun _ => some (.int 1)) oAdd) (oIC cMod fun i j => i % j)) nilA)) (setN 6) (seqS (asgS (lsV (slV (c1 (consA (c1 (consA (gD 0) (consA (b2 (b2 (gD 1) (fun _ => some (.int 1)) oAdd) (b2 (gD 6) (fun _ => some (.int 5)) (oIC cDiv fun i j => i / j)) oAdd) nilA)) F_law_cell) (consA (fun _ => some (.int 20)) nilA)) F_law_numbers) (someP (b2 (fun _ => some (.int 4)) (b2 (gD 6) (fun _ => some (.int 5)) (oIC cMod fun i j => i % j)) oMul)) noP oSlL)) (setN 7)) (seqS (parS 8 9 (b2 (b2 (gD 7) (fun _ => some (.int 0)) oIx) (gD 2) (oIC cMod fun i j => i % j)) (b2 (b2 (gD 7) (fun _ => some (.int 1)) oIx) (gD 2) (oIC cMod fun i j => i % j))) (seqS (ifS (tb (b2 (b2 (b2 (gD 4) (fun _ => some (.int 1)) oIx) (fun _ => some (.int 4)) (oIC cMod fun i j => i % j)) (fun _ => some (.int 1)) (oEqD false))) (parS 8 9 (b2 (gD 6) (gD 2) (oIC cMod fun i j => i % j)) (b2 (b2 (gD 6) (fun _ => some (.int 1)) oAdd) (gD 2) (oIC cMod fun i j => i % j))) nextS) (seqS (ifS (andT (tb (b2 (b2 (b2 (gD 4) (fun _ => some (.int 1)) oIx) (fun _ => some (.int 4)) (oIC cMod fun i j => i % j)) (fun _ => some (.int 2)) (oEqD false))) (tb (b2 (b2 (b2 (gD 7) (fun _ => some (.int 2)) oIx) (fun _ => some (.int 3)) (oIC cMod fun i j => i % j)) (fun _ => some (.int 0)) (oB fun i j => decide (j < i))))) (seqS (asgS (b2 (b2 (b2 (gD 8) (fun _ => some (.int 2)) (oIC cDiv fun i j => i / j)) (fun _ => some (.int 2)) oMul) (gD 2) (oIC cMod fun i j => i % j)) (setN 8)) (asgS (c1 (consA (b2 (gD 2) (fun _ => some (.int 1)) (oI fun i j => i - j)) (consA (b2 (gD 8) (fun _ => some (.int 1)) oAdd) nilA)) oMin2) (setN 9))) nextS) (seqS (ifS (andT (tb (eqO true 5 (lsV (lstV nilA)))) (tb (b2 (b2 (b2 (gD 7) (fun _ => some (.int 2)) oIx) (fun _ => some (.int 7)) (oIC cMod fun i j => i % j)) (fun _ => some (.int 1)) (oEqD false)))) (asgS (ixO 5 (b2 (b2 (gD 7) (fun _ => some (.int 3)) oIx) (lenO 5) (oIC cMod fun i j => i % j))) (tupG 2 (consG (setN 8) (consG (setN 9) nilG)))) nextS) (appS 5 (b2 (lsV (lstV (consA (tupV (consA (gD 8) (consA (gD 9) nilA))) (consA (tupV (consA (gD 9) (consA (gD 8) nilA))) nilA)))) (b2 (b2 (b2 (gD 7) (fun _ => some (.int 2)) oIx) (fun _ => some (.int 7)) (oIC cDiv fun i j => i / j)) (fun _ => some (.int 2)) (oIC cMod fun i j => i % j)) oIx)))))))) (frzS 5 (retS (c1 (consA (gD 5) nilA) oTupOf))))))
def F_law_joins : List D → Option D := runS 4 10 d_law_joins
theorem body_law_joins (w : WOk W) : BSs ⟨W, 1, defScope (topS 127), ["_law_script", "_law_at", "_law_many", "_law_most", "_law_head", "_law_row", "_law_k", "_law_xs", "_law_x", "_law_y"], [0, 1, 2, 3, 4, 5, 6, 7, 8, 9], [0, 1, 2, 3, 4, 5, 6, 7, 8, 9], ["_law_numbers", "_law_cell", "range", "min", "len", "tuple"], none⟩ (defBody (topS 127)) d_law_joins :=
  (scons (sset 4 rfl (mm rfl) (bcall 0 (df_law_numbers w) runS_len (Nat.le_of_ble_eq_true rfl) rfl (acons (bcall 1 (df_law_cell w) runS_len (Nat.le_of_ble_eq_true rfl) rfl (acons (bv 0 rfl (mm rfl)) (acons (bv 1 rfl (mm rfl)) anil))) (acons bi anil)))) (scons (sown (aN 5 rfl (mm rfl) (nlst anil))) (scons (sfor (iR1 2 rfl (acons (bop bMod (bix (bv 4 rfl (mm rfl)) bi) (bop bAdd (bv 3 rfl (mm rfl)) bi)) anil)) (gname 6 rfl (mm rfl)) (scons (sset 7 rfl (mm rfl) (nle (nslL (bcall 0 (df_law_numbers w) runS_len (Nat.le_of_ble_eq_true rfl) rfl (acons (bcall 1 (df_law_cell w) runS_len (Nat.le_of_ble_eq_true rfl) rfl (acons (bv 0 rfl (mm rfl)) (acons (bop bAdd (bop bAdd (bv 1 rfl (mm rfl)) bi) (bop bDiv (bv 6 rfl (mm rfl)) bi)) anil))) (acons bi anil))) (psome (bop bMul bi (bop bMod (bv 6 rfl (mm rfl)) bi))) pno))) (scons (spar 8 9 rfl rfl rfl rfl rfl rfl (by decide) rfl rfl rfl (fun _ => rfl) (by decide) (bop bMod (bix (bv 7 rfl (mm rfl)) bi) (bv 2 rfl (mm rfl))) (bop bMod (bix (bv 7 rfl (mm rfl)) bi) (bv 2 rfl (mm rfl))) (fun _ => rfl) (fun _ => rfl)) (scons (sif (tcm bEq (bop bMod (bix (bv 4 rfl (mm rfl)) bi) bi) bi) (sone (spar 8 9 rfl rfl rfl rfl rfl rfl (by decide) rfl rfl rfl (fun _ => rfl) (by decide) (bop bMod (bv 6 rfl (mm rfl)) (bv 2 rfl (mm rfl))) (bop bMod (bop bAdd (bv 6 rfl (mm rfl)) bi) (bv 2 rfl (mm rfl))) (fun _ => rfl) (fun _ => rfl))) snil) (scons (sif (tw (wand (tcm bEq (bop bMod (bix (bv 4 rfl (mm rfl)) bi) bi) bi) (wand1 (tcm bGt (bop bMod (bix (bv 7 rfl (mm rfl)) bi) bi) bi)))) (scons (sset 8 rfl (mm rfl) (bop bMod (bop bMul (bop bDiv (bv 8 rfl (mm rfl)) bi) bi) (bv 2 rfl (mm rfl)))) (sone (sset 9 rfl (mm rfl) (bmin0 3 (acons (bop bSub (bv 2 rfl (mm rfl)) bi) (acons (bop bAdd (bv 8 rfl (mm rfl)) bi) anil)) (fun _ => rfl) (fun _ => rfl) rfl)))) snil) (scons (sif (tw (wand (tNeO 5 rfl (mm rfl) (nle (nlst anil))) (wand1 (tcm bEq (bop bMod (bix (bv 7 rfl (mm rfl)) bi) bi) bi)))) (sone (sasg (oIxO 5 rfl (mm rfl) (bop bMod (bix (bv 7 rfl (mm rfl)) bi) (oLenO 5 rfl (mm rfl) 4 rfl))) (gtup (n := 2) (gcons (gname 8 rfl (mm rfl)) (gcons (gname 9 rfl (mm rfl)) gnil))))) snil) (sone (sapp 5 rfl (mm rfl) (bix (nle (nlst (acons (btup (acons (bv 8 rfl (mm rfl)) (acons (bv 9 rfl (mm rfl)) anil))) (acons (btup (acons (bv 9 rfl (mm rfl)) (acons (bv 8 rfl (mm rfl)) anil))) anil)))) (bop bMod (bop bDiv (bix (bv 7 rfl (mm rfl)) bi) bi) bi)))))))))) (sfrz 5 (sone (sret (btup0 5 (acons (bv 5 rfl (mm rfl)) anil) (fun _ => rfl) (fun _ => rfl) rfl)))))))
theorem df_law_joins (w : WOk W) : Df W 2 "_law_joins" 4 F_law_joins := df_of (N := ["_law_script", "_law_at", "_law_many", "_law_most", "_law_head", "_law_row", "_law_k", "_law_xs", "_law_x", "_law_y"]) (ps := ["_law_script", "_law_at", "_law_many", "_law_most"]) w.bn (w.fns _ (mf 95 rfl)) (by decide +kernel) rfl rfl (by decide) (fun _ _ _ _ _ _ us hl => match us, hl with | [_, _, _, _], _ => rfl) (body_law_joins w)
def d_law_lots_by : Gs := (seqS (asgS (lsV (lcV (itR1 (consA (gD 0) nilA)) (setN 3) yesT (tupV (consA (gD 3) nilA)) [3])) (setN 2)) (seqS (forS (itT (gD 1)) (tupG 2 (consG (setN 3) (consG (setN 4) nilG))) (seqS (asgS (b2 (lsV (lcV (itL (gD 2)) (setN 7) (tb (b2 (gD 3) (gD 7) (oIn false))) (gD 7) [7])) (fun _ => some (.int 0)) oIx) (setN 5)) (seqS (asgS (b2 (lsV (lcV (itL (gD 2)) (setN 7) (tb (b2 (gD 4) (gD 7) (oIn false))) (gD 7) [7])) (fun _ => some (.int 0)) oIx) (setN 6)) (ifS (tb (b2 (gD 5) (gD 6) (oEqD true))) (asgS (b2 (lsV (lcV (itL (gD 2)) (setN 7) (tb (b2 (gD 7) (tupV (consA (gD 5) (consA (gD 6) nilA))) (oInTD true))) (gD 7) [7])) (lsV (lstV (consA (c1 (consA (lsV (cN (consA (b2 (gD 5) (gD 6) oAdd) nilA) oSorted)) nilA) oTupOf) nilA))) oAdd) (setN 2)) nextS)))) (retS (lsV (cN (consA (gD 2) nilA) oSorted)))))
def F_law_lots_by : List D → Option D := runS 2 8 d_law_lots_by
theorem body_law_lots_by (w : WOk W) : BSs ⟨W, 0, defScope (topS 128), ["_law_many", "_law_pairs", "_law_lots", "_law_x", "_law_y", "_law_one", "_law_other", "_law_lot"], [0, 1, 2, 3, 4, 5, 6], [0, 1, 2, 3, 4, 5, 6], ["range", "tuple", "sorted"], none⟩ (defBody (topS 128)) d_law_lots_by :=
  (scons (sdat (aLc 2 [("_law_x", 3)] [3] [3] [] rfl rfl rfl rfl (iR1 0 rfl (acons (bv 0 rfl (mm rfl)) anil)) (by kernel_rfl) (by kernel_rfl) (gname 3 rfl (mm rfl)) tsnil (btup (acons (bv 3 rfl (mm rfl)) anil)) (by decide))) (scons (sfor (iT (bv 1 rfl (mm rfl))) (gtup (n := 2) (gcons (gname 3 rfl (mm rfl)) (gcons (gname 4 rfl (mm rfl)) gnil))) (scons (sset 5 rfl (mm rfl) (bix (nle (nlc [("_law_lot", 7)] [7, 3] [7] [] (iL (bv 2 rfl (mm rfl))) (by kernel_rfl) (by kernel_rfl) (gname 7 rfl (mm rfl)) (tsone (tcm bIn (bv 3 rfl (mm rfl)) (bv 7 rfl (mm rfl)))) (bv 7 rfl (mm rfl)) (by decide))) bi)) (scons (sset 6 rfl (mm rfl) (bix (nle (nlc [("_law_lot", 7)] [7, 4] [7] [] (iL (bv 2 rfl (mm rfl))) (by kernel_rfl) (by kernel_rfl) (gname 7 rfl (mm rfl)) (tsone (tcm bIn (bv 4 rfl (mm rfl)) (bv 7 rfl (mm rfl)))) (bv 7 rfl (mm rfl)) (by decide))) bi)) (sone (sif (tcm bNe (bv 5 rfl (mm rfl)) (bv 6 rfl (mm rfl))) (sone (sset 2 rfl (mm rfl) (bop bAdd (nle (nlc [("_law_lot", 7)] [7, 5, 6] [7] [] (iL (bv 2 rfl (mm rfl))) (by kernel_rfl) (by kernel_rfl) (gname 7 rfl (mm rfl)) (tsone (tcm bNotInT (bv 7 rfl (mm rfl)) (btup (acons (bv 5 rfl (mm rfl)) (acons (bv 6 rfl (mm rfl)) anil))))) (bv 7 rfl (mm rfl)) (by decide))) (nle (nlst (acons (btup0 1 (acons (nle (nsort0 2 (acons (bop bAdd (bv 5 rfl (mm rfl)) (bv 6 rfl (mm rfl))) anil) (fun _ => rfl) (fun _ => rfl) rfl)) anil) (fun _ => rfl) (fun _ => rfl) rfl) anil)))))) snil))))) (sone (sret (nle (nsort0 2 (acons (bv 2 rfl (mm rfl)) anil) (fun _ => rfl) (fun _ => rfl) rfl))))))
theorem df_law_lots_by (w : WOk W) : Df W 1 "_law_lots_by" 2 F_law_lots_by := df_of (N := ["_law_many", "_law_pairs", "_law_lots", "_law_x", "_law_y", "_law_one", "_law_other", "_law_lot"]) (ps := ["_law_many", "_law_pairs"]) w.bn (w.fns _ (mf 96 rfl)) (by decide +kernel) rfl rfl (by decide) (fun _ _ _ _ _ _ us hl => match us, hl with | [_, _], _ => rfl) (body_law_lots_by w)
def d_law_way : Gs := (seqS (ownS 2 (lstV (consA (gD 1) nilA))) (seqS (whS (andT (tb (b2 (b2 (gD 0) (ixO 2 (b1 (fun _ => some (.int 1)) oNeg)) oIx) (ixO 2 (b1 (fun _ => some (.int 1)) oNeg)) (oEqD true))) (tb (b2 (lenO 2) (c1 (consA (gD 0) nilA) oLen) (oB fun i j => decide (i ≤ j))))) (appS 2 (b2 (gD 0) (ixO 2 (b1 (fun _ => some (.int 1)) oNeg)) oIx)) 60) (frzS 2 (retS (gD 2)))))
def F_law_way : List D → Option D := runS 2 3 d_law_way
theorem body_law_way (w : WOk W) : BSs ⟨W, 0, defScope (topS 129), ["_law_ups", "_law_x", "_law_way_here"], [0, 1, 2], [0, 1, 2], ["len"], none⟩ (defBody (topS 129)) d_law_way :=
  (scons (sown (aN 2 rfl (mm rfl) (nlst (acons (bv 1 rfl (mm rfl)) anil)))) (scons (swh 60 (tw (wand (tcm bNe (bix (bv 0 rfl (mm rfl)) (oIxO 2 rfl (mm rfl) (bneg bi))) (oIxO 2 rfl (mm rfl) (bneg bi))) (wand1 (tcm bLe (oLenO 2 rfl (mm rfl) 0 rfl) (blen0 0 (acons (bv 0 rfl (mm rfl)) anil) (fun _ => rfl) (fun _ => rfl) rfl))))) (sone (sapp 2 rfl (mm rfl) (bix (bv 0 rfl (mm rfl)) (oIxO 2 rfl (mm rfl) (bneg bi)))))) (sfrz 2 (sone (sret (bv 2 rfl (mm rfl)))))))
theorem df_law_way (w : WOk W) : Df W 1 "_law_way" 2 F_law_way := df_of (N := ["_law_ups", "_law_x", "_law_way_here"]) (ps := ["_law_ups", "_law_x"]) w.bn (w.fns _ (mf 97 rfl)) (by decide +kernel) rfl rfl (by decide) (fun _ _ _ _ _ _ us hl => match us, hl with | [_, _], _ => rfl) (body_law_way w)
def d_law_find : Gs := (seqS (ownS 0 (cN (consA (gD 0) nilA) oListOf)) (frzS 0 (seqS (asgS (c1 (consA (gD 0) (consA (gD 2) nilA)) F_law_way) (setN 3)) (seqS (asgS (b2 (gD 3) (b1 (fun _ => some (.int 1)) oNeg) oIx) (setN 4)) (seqS (ifS (orT (tb (b2 (gD 1) (fun _ => some (.str "none")) (oEqD false))) (orT (tb (b2 (gD 1) (fun _ => some (.str "whole")) (oEqD false))) (tb (b2 (gD 1) (fun _ => some (.str "one")) (oEqD false))))) (seqS (ifS (tb (b2 (gD 1) (fun _ => some (.str "whole")) (oEqD false))) neverS nextS) (seqS (ifS (tb (b2 (gD 1) (fun _ => some (.str "one")) (oEqD false))) neverS nextS) (retS (tupV (consA (gD 4) (consA (c1 (consA (gD 0) nilA) oTupOf) (consA (b2 (c1 (consA (gD 3) nilA) oLen) (fun _ => some (.int 1)) (oI fun i j => i - j)) nilA))))))) nextS) neverS)))))
def F_law_find : List D → Option D := runS 3 9 d_law_find
theorem body_law_find (w : WOk W) : BSs ⟨W, 1, defScope (topS 130), ["_law_ups", "_law_short", "_law_x", "_law_way_here", "_law_head", "_law_steps", "_law_here", "_law_up", "_law_thing"], [0, 1, 2, 3, 4, 5, 6, 7, 8], [0, 1, 2, 3, 4, 5, 6, 7, 8], ["list", "_law_way", "tuple", "len", "int"], none⟩ (defBody (topS 130)) d_law_find :=
  (scons (sown (aN 0 rfl (mm rfl) (nlist0 0 (acons (bv 0 rfl (mm rfl)) anil) (fun _ => rfl) (fun _ => rfl) rfl))) (sfrz 0 (scons (sset 3 rfl (mm rfl) (bcall 1 (df_law_way w) runS_len (Nat.le_of_ble_eq_true rfl) rfl (acons (bv 0 rfl (mm rfl)) (acons (bv 2 rfl (mm rfl)) anil)))) (scons (sset 4 rfl (mm rfl) (bix (bv 3 rfl (mm rfl)) (bneg bi))) (scons (sif (tw (wor (tcm bEq (bv 1 rfl (mm rfl)) bs) (wor (tcm bEq (bv 1 rfl (mm rfl)) bs) (wor1 (tcm bEq (bv 1 rfl (mm rfl)) bs))))) (scons (sif (tcm bEq (bv 1 rfl (mm rfl)) bs) ssnever snil) (scons (sif (tcm bEq (bv 1 rfl (mm rfl)) bs) ssnever snil) (sone (sret (btup (acons (bv 4 rfl (mm rfl)) (acons (btup0 2 (acons (bv 0 rfl (mm rfl)) anil) (fun _ => rfl) (fun _ => rfl) rfl) (acons (bop bSub (blen0 3 (acons (bv 3 rfl (mm rfl)) anil) (fun _ => rfl) (fun _ => rfl) rfl) bi) anil)))))))) snil) ssnever)))))
theorem df_law_find (w : WOk W) : Df W 2 "_law_find" 3 F_law_find := df_of (N := ["_law_ups", "_law_short", "_law_x", "_law_way_here", "_law_head", "_law_steps", "_law_here", "_law_up", "_law_thing"]) (ps := ["_law_ups", "_law_short", "_law_x"]) w.bn (w.fns _ (mf 98 rfl)) (by decide +kernel) rfl rfl (by decide) (fun _ _ _ _ _ _ us hl => match us, hl with | [_, _, _], _ => rfl) (body_law_find w)
def d_law_new : Gs := (retS (tupV (consA (gD 1) (consA (gD 2) (consA (tupRgV (rg1 (gD 0))) (consA (b2 (tupV (consA (c1 (consA (b2 (gD 1) (fun _ => some (.str "size")) (oEqD false)) nilA) oInt) nilA)) (gD 0) oMul) nilA))))))
def F_law_new : List D → Option D := runS 3 3 d_law_new
theorem body_law_new (w : WOk W) : BSs ⟨W, 0, defScope (topS 131), ["_law_many", "_law_join", "_law_short"], [0, 1, 2], [0, 1, 2], ["tuple", "range", "int"], none⟩ (defBody (topS 131)) d_law_new :=
  (sone (sret (btup (acons (bv 1 rfl (mm rfl)) (acons (bv 2 rfl (mm rfl)) (acons (btupRg 0 rfl (r1 1 rfl (bv 0 rfl (mm rfl)))) (acons (bop bMul (btup (acons (bint0 2 (acons (bcm bEq (bv 1 rfl (mm rfl)) bs) anil) (fun _ => rfl) (fun _ => rfl) rfl) anil)) (bv 0 rfl (mm rfl))) anil)))))))
theorem df_law_new (w : WOk W) : Df W 1 "_law_new" 3 F_law_new := df_of (N := ["_law_many", "_law_join", "_law_short"]) (ps := ["_law_many", "_law_join", "_law_short"]) w.bn (w.fns _ (mf 99 rfl)) (by decide +kernel) rfl rfl (by decide) (fun _ _ _ _ _ _ us hl => match us, hl with | [_, _, _], _ => rfl) (body_law_new w)
def d_law_linked : Gs := (seqS (parOS 1 2 (cN (consA (gD 1) nilA) oListOf) (cN (consA (gD 2) nilA) oListOf)) (seqS (parS 5 6 (gD 3) (gD 4)) (seqS (ifS (orT (andT (tb (b2 (gD 0) (tupV (consA (fun _ => some (.str "size")) (consA (fun _ => some (.str "rank")) nilA))) (oIn false))) (tb (b2 (ixO 2 (gD 4)) (ixO 2 (gD 3)) (oB fun i j => decide (j < i))))) (andT (tb (b2 (gD 0) (fun _ => some (.str "names")) (oEqD false))) (tb (b2 (gD 4) (gD 3) (oB fun i j => decide (i < j)))))) (parS 5 6 (gD 4) (gD 3)) nextS) (seqS (setS 1 (gD 6) (gD 5)) (seqS (ifS (tb (b2 (gD 0) (fun _ => some (.str "size")) (oEqD false))) (setS 2 (gD 5) (b2 (ixO 2 (gD 5)) (ixO 2 (gD 6)) oAdd)) nextS) (seqS (ifS (andT (tb (b2 (gD 0) (fun _ => some (.str "rank")) (oEqD false))) (tb (b2 (ixO 2 (gD 5)) (ixO 2 (gD 6)) (oEqD false)))) (setS 2 (gD 5) (b2 (ixO 2 (gD 5)) (fun _ => some (.int 1)) oAdd)) nextS) (frzS 2 (frzS 1 (retS (tupV (consA (c1 (consA (gD 1) nilA) oTupOf) (consA (c1 (consA (gD 2) nilA) oTupOf) nilA))))))))))))
def F_law_linked : List D → Option D := runS 5 7 d_law_linked
theorem body_law_linked (w : WOk W) : BSs ⟨W, 0, defScope (topS 132), ["_law_join", "_law_ups", "_law_marks", "_law_one", "_law_other", "_law_stays", "_law_goes"], [0, 1, 2, 3, 4, 5, 6], [0, 1, 2, 3, 4, 5, 6], ["list", "tuple"], none⟩ (defBody (topS 132)) d_law_linked :=
  (scons (sparO 1 2 rfl rfl rfl rfl rfl rfl (by decide) rfl rfl rfl (fun _ => rfl) (by decide) (nlist0 0 (acons (bv 1 rfl (mm rfl)) anil) (fun _ => rfl) (fun _ => rfl) rfl) (nlist0 0 (acons (bv 2 rfl (mm rfl)) anil) (fun _ => rfl) (fun _ => rfl) rfl) (fun _ => rfl) (fun _ => rfl)) (scons (spar 5 6 rfl rfl rfl rfl rfl rfl (by decide) rfl rfl rfl (fun _ => rfl) (by decide) (bv 3 rfl (mm rfl)) (bv 4 rfl (mm rfl)) (fun _ => rfl) (fun _ => rfl)) (scons (sif (tw (wor (tw (wand (tcm bIn (bv 0 rfl (mm rfl)) (btup (acons bs (acons bs anil)))) (wand1 (tcm bGt (oIxO 2 rfl (mm rfl) (bv 4 rfl (mm rfl))) (oIxO 2 rfl (mm rfl) (bv 3 rfl (mm rfl))))))) (wor1 (tw (wand (tcm bEq (bv 0 rfl (mm rfl)) bs) (wand1 (tcm bLt (bv 4 rfl (mm rfl)) (bv 3 rfl (mm rfl))))))))) (sone (spar 5 6 rfl rfl rfl rfl rfl rfl (by decide) rfl rfl rfl (fun _ => rfl) (by decide) (bv 4 rfl (mm rfl)) (bv 3 rfl (mm rfl)) (fun _ => rfl) (fun _ => rfl))) snil) (scons (ssetO 1 rfl (mm rfl) (bv 6 rfl (mm rfl)) (bv 5 rfl (mm rfl))) (scons (sif (tcm bEq (bv 0 rfl (mm rfl)) bs) (sone (ssetO 2 rfl (mm rfl) (bv 5 rfl (mm rfl)) (bop bAdd (oIxO 2 rfl (mm rfl) (bv 5 rfl (mm rfl))) (oIxO 2 rfl (mm rfl) (bv 6 rfl (mm rfl)))))) snil) (scons (sif (tw (wand (tcm bEq (bv 0 rfl (mm rfl)) bs) (wand1 (tcm bEq (oIxO 2 rfl (mm rfl) (bv 5 rfl (mm rfl))) (oIxO 2 rfl (mm rfl) (bv 6 rfl (mm rfl))))))) (sone (ssetO 2 rfl (mm rfl) (bv 5 rfl (mm rfl)) (bop bAdd (oIxO 2 rfl (mm rfl) (bv 5 rfl (mm rfl))) bi))) snil) (sfrz 2 (sfrz 1 (sone (sret (btup (acons (btup0 1 (acons (bv 1 rfl (mm rfl)) anil) (fun _ => rfl) (fun _ => rfl) rfl) (acons (btup0 1 (acons (bv 2 rfl (mm rfl)) anil) (fun _ => rfl) (fun _ => rfl) rfl) anil)))))))))))))
theorem df_law_linked (w : WOk W) : Df W 1 "_law_linked" 5 F_law_linked := df_of (N := ["_law_join", "_law_ups", "_law_marks", "_law_one", "_law_other", "_law_stays", "_law_goes"]) (ps := ["_law_join", "_law_ups", "_law_marks", "_law_one", "_law_other"]) w.bn (w.fns _ (mf 100 rfl)) (by decide +kernel) rfl rfl (by decide) (fun _ _ _ _ _ _ us hl => match us, hl with | [_, _, _, _, _], _ => rfl) (body_law_linked w)
def d_law_deed : Gs := (seqS (asgS (gD 0) (tupG 4 (consG (setN 2) (consG (setN 3) (consG (setN 4) (consG (setN 5) nilG)))))) (seqS (asgS (c1 (consA (gD 4) (consA (gD 3) (consA (b2 (gD 1) (fun _ => some (.int 1)) oIx) nilA))) F_law_find) (tupG 3 (consG (setN 6) (consG (setN 4) (consG (setN 7) nilG))))) (seqS (ifS (tb (b2 (b2 (gD 1) (fun _ => some (.int 0)) oIx) (fun _ => some (.str "find")) (oEqD false))) (retS (tupV (consA (tupV (consA (gD 2) (consA (gD 3) (consA (gD 4) (consA (gD 5) nilA))))) (consA (gD 6) (consA (gD 7) nilA))))) nextS) (seqS (asgS (c1 (consA (gD 4) (consA (gD 3) (consA (b2 (gD 1) (fun _ => some (.int 2)) oIx) nilA))) F_law_find) (tupG 3 (consG (setN 8) (consG (setN 4) (consG (setN 9) nilG))))) (seqS (ifS (tb (b2 (gD 6) (gD 8) (oEqD true))) (asgS (c1 (consA (gD 2) (consA (gD 4) (consA (gD 5) (consA (gD 6) (consA (gD 8) nilA))))) F_law_linked) (tupG 2 (consG (setN 4) (consG (setN 5) nilG)))) nextS) (retS (tupV (consA (tupV (consA (gD 2) (consA (gD 3) (consA (gD 4) (consA (gD 5) nilA))))) (consA (b2 (gD 6) (gD 8) (oEqD true)) (consA (b2 (gD 7) (gD 9) oAdd) nilA))))))))))
def F_law_deed : List D → Option D := runS 2 10 d_law_deed
theorem body_law_deed (w : WOk W) : BSs ⟨W, 2, defScope (topS 133), ["_law_store", "_law_deed_here", "_law_join", "_law_short", "_law_ups", "_law_marks", "_law_one", "_law_steps", "_law_other", "_law_more"], [0, 1, 2, 3, 4, 5, 6, 7, 8, 9], [0, 1, 2, 3, 4, 5, 6, 7, 8, 9], ["_law_find", "_law_linked"], none⟩ (defBody (topS 133)) d_law_deed :=
  (scons (sasg (bv 0 rfl (mm rfl)) (gtup (n := 4) (gcons (gname 2 rfl (mm rfl)) (gcons (gname 3 rfl (mm rfl)) (gcons (gname 4 rfl (mm rfl)) (gcons (gname 5 rfl (mm rfl)) gnil)))))) (scons (sasg (bcall 0 (df_law_find w) runS_len (Nat.le_of_ble_eq_true rfl) rfl (acons (bv 4 rfl (mm rfl)) (acons (bv 3 rfl (mm rfl)) (acons (bix (bv 1 rfl (mm rfl)) bi) anil)))) (gtup (n := 3) (gcons (gname 6 rfl (mm rfl)) (gcons (gname 4 rfl (mm rfl)) (gcons (gname 7 rfl (mm rfl)) gnil))))) (scons (sif (tcm bEq (bix (bv 1 rfl (mm rfl)) bi) bs) (sone (sret (btup (acons (btup (acons (bv 2 rfl (mm rfl)) (acons (bv 3 rfl (mm rfl)) (acons (bv 4 rfl (mm rfl)) (acons (bv 5 rfl (mm rfl)) anil))))) (acons (bv 6 rfl (mm rfl)) (acons (bv 7 rfl (mm rfl)) anil)))))) snil) (scons (sasg (bcall 0 (df_law_find w) runS_len (Nat.le_of_ble_eq_true rfl) rfl (acons (bv 4 rfl (mm rfl)) (acons (bv 3 rfl (mm rfl)) (acons (bix (bv 1 rfl (mm rfl)) bi) anil)))) (gtup (n := 3) (gcons (gname 8 rfl (mm rfl)) (gcons (gname 4 rfl (mm rfl)) (gcons (gname 9 rfl (mm rfl)) gnil))))) (scons (sif (tcm bNe (bv 6 rfl (mm rfl)) (bv 8 rfl (mm rfl))) (sone (sasg (bcall 1 (df_law_linked w) runS_len (Nat.le_of_ble_eq_true rfl) rfl (acons (bv 2 rfl (mm rfl)) (acons (bv 4 rfl (mm rfl)) (acons (bv 5 rfl (mm rfl)) (acons (bv 6 rfl (mm rfl)) (acons (bv 8 rfl (mm rfl)) anil)))))) (gtup (n := 2) (gcons (gname 4 rfl (mm rfl)) (gcons (gname 5 rfl (mm rfl)) gnil))))) snil) (sone (sret (btup (acons (btup (acons (bv 2 rfl (mm rfl)) (acons (bv 3 rfl (mm rfl)) (acons (bv 4 rfl (mm rfl)) (acons (bv 5 rfl (mm rfl)) anil))))) (acons (bcm bNe (bv 6 rfl (mm rfl)) (bv 8 rfl (mm rfl))) (acons (bop bAdd (bv 7 rfl (mm rfl)) (bv 9 rfl (mm rfl))) anil)))))))))))
theorem df_law_deed (w : WOk W) : Df W 3 "_law_deed" 2 F_law_deed := df_of (N := ["_law_store", "_law_deed_here", "_law_join", "_law_short", "_law_ups", "_law_marks", "_law_one", "_law_steps", "_law_other", "_law_more"]) (ps := ["_law_store", "_law_deed_here"]) w.bn (w.fns _ (mf 101 rfl)) (by decide +kernel) rfl rfl (by decide) (fun _ _ _ _ _ _ us hl => match us, hl with | [_, _], _ => rfl) (body_law_deed w)
def d_law_run : Gs := (seqS (parOS 3 4 (lstV nilA) (lstV nilA)) (seqS (forS (itL (gD 1)) (setN 2) (seqS (asgS (c1 (consA (gD 0) (consA (gD 2) nilA)) F_law_deed) (tupG 3 (consG (setN 0) (consG (setN 5) (consG (setN 6) nilG))))) (seqS (appS 3 (gD 5)) (appS 4 (gD 6))))) (frzS 3 (frzS 4 (retS (tupV (consA (gD 0) (consA (gD 3) (consA (gD 4) nilA)))))))))
def F_law_run : List D → Option D := runS 2 7 d_law_run
theorem body_law_run (w : WOk W) : BSs ⟨W, 3, defScope (topS 134), ["_law_store", "_law_row", "_law_deed_here", "_law_answers", "_law_steps", "_law_answer", "_law_many"], [0, 1, 2, 3, 4, 5, 6], [0, 1, 2, 3, 4, 5, 6], ["_law_deed"], none⟩ (defBody (topS 134)) d_law_run :=
  (scons (sparO 3 4 rfl rfl rfl rfl rfl rfl (by decide) rfl rfl rfl (fun _ => rfl) (by decide) (nlst anil) (nlst anil) (fun _ => rfl) (fun _ => rfl)) (scons (sfor (iL (bv 1 rfl (mm rfl))) (gname 2 rfl (mm rfl)) (scons (sasg (bcall 0 (df_law_deed w) runS_len (Nat.le_of_ble_eq_true rfl) rfl (acons (bv 0 rfl (mm rfl)) (acons (bv 2 rfl (mm rfl)) anil))) (gtup (n := 3) (gcons (gname 0 rfl (mm rfl)) (gcons (gname 5 rfl (mm rfl)) (gcons (gname 6 rfl (mm rfl)) gnil))))) (scons (sapp 3 rfl (mm rfl) (bv 5 rfl (mm rfl))) (sone (sapp 4 rfl (mm rfl) (bv 6 rfl (mm rfl))))))) (sfrz 3 (sfrz 4 (sone (sret (btup (acons (bv 0 rfl (mm rfl)) (acons (bv 3 rfl (mm rfl)) (acons (bv 4 rfl (mm rfl)) anil))))))))))
theorem df_law_run (w : WOk W) : Df W 4 "_law_run" 2 F_law_run := df_of (N := ["_law_store", "_law_row", "_law_deed_here", "_law_answers", "_law_steps", "_law_answer", "_law_many"]) (ps := ["_law_store", "_law_row"]) w.bn (w.fns _ (mf 102 rfl)) (by decide +kernel) rfl rfl (by decide) (fun _ _ _ _ _ _ us hl => match us, hl with | [_, _], _ => rfl) (body_law_run w)
def d_law_rows_of : Gs := (seqS (parS 3 4 (lsV (lstV (consA (tupV nilA) nilA))) (lsV (lstV (consA (tupV nilA) nilA)))) (seqS (forS (itR1 (consA (gD 1) nilA)) (setN 2) (seqS (asgS (lsV (lstV nilA)) (setN 5)) (seqS (forS (itL (gD 4)) (setN 6) (asgS (b2 (gD 5) (lsV (lcV (itR1 (consA (gD 0) nilA)) (setN 7) yesT (b2 (gD 6) (tupV (consA (gD 7) nilA)) oAdd) [7])) oAdd) (setN 5))) (parS 3 4 (b2 (gD 3) (gD 5) oAdd) (gD 5))))) (retS (gD 3))))
def F_law_rows_of : List D → Option D := runS 2 8 d_law_rows_of
theorem body_law_rows_of (w : WOk W) : BSs ⟨W, 0, defScope (topS 135), ["_law_many", "_law_most", "_law_turn", "_law_every", "_law_last", "_law_longer", "_law_row", "_law_k"], [0, 1, 2, 3, 4, 5, 6], [0, 1, 2, 3, 4, 5, 6], ["range"], none⟩ (defBody (topS 135)) d_law_rows_of :=
  (scons (spar 3 4 rfl rfl rfl rfl rfl rfl (by decide) rfl rfl rfl (fun _ => rfl) (by decide) (nle (nlst (acons (btup anil) anil))) (nle (nlst (acons (btup anil) anil))) (fun _ => rfl) (fun _ => rfl)) (scons (sfor (iR1 0 rfl (acons (bv 1 rfl (mm rfl)) anil)) (gname 2 rfl (mm rfl)) (scons (sset 5 rfl (mm rfl) (nle (nlst anil))) (scons (sfor (iL (bv 4 rfl (mm rfl))) (gname 6 rfl (mm rfl)) (sone (sset 5 rfl (mm rfl) (bop bAdd (bv 5 rfl (mm rfl)) (nle (nlc [("_law_k", 7)] [7, 6] [7] [] (iR1 0 rfl (acons (bv 0 rfl (mm rfl)) anil)) (by kernel_rfl) (by kernel_rfl) (gname 7 rfl (mm rfl)) tsnil (bop bAdd (bv 6 rfl (mm rfl)) (btup (acons (bv 7 rfl (mm rfl)) anil))) (by decide))))))) (sone (spar 3 4 rfl rfl rfl rfl rfl rfl (by decide) rfl rfl rfl (fun _ => rfl) (by decide) (bop bAdd (bv 3 rfl (mm rfl)) (bv 5 rfl (mm rfl))) (bv 5 rfl (mm rfl)) (fun _ => rfl) (fun _ => rfl)))))) (sone (sret (bv 3 rfl (mm rfl))))))
theorem df_law_rows_of (w : WOk W) : Df W 1 "_law_rows_of" 2 F_law_rows_of := df_of (N := ["_law_many", "_law_most", "_law_turn", "_law_every", "_law_last", "_law_longer", "_law_row", "_law_k"]) (ps := ["_law_many", "_law_most"]) w.bn (w.fns _ (mf 103 rfl)) (by decide +kernel) rfl rfl (by decide) (fun _ _ _ _ _ _ us hl => match us, hl with | [_, _], _ => rfl) (body_law_rows_of w)
def d_law_sets_of : Gs := (seqS (asgS (lsV (lstV (consA (tupV nilA) nilA))) (setN 1)) (seqS (forS (itR1 (consA (gD 0) nilA)) (setN 2) (asgS (b2 (gD 1) (lsV (lcV (itL (gD 1)) (setN 3) yesT (b2 (gD 3) (tupV (consA (gD 2) nilA)) oAdd) [3])) oAdd) (setN 1))) (retS (gD 1))))
def F_law_sets_of : List D → Option D := runS 1 4 d_law_sets_of
theorem body_law_sets_of (w : WOk W) : BSs ⟨W, 0, defScope (topS 136), ["_law_many", "_law_every", "_law_k", "_law_part"], [0, 1, 2], [0, 1, 2], ["range"], none⟩ (defBody (topS 136)) d_law_sets_of :=
  (scons (sset 1 rfl (mm rfl) (nle (nlst (acons (btup anil) anil)))) (scons (sfor (iR1 0 rfl (acons (bv 0 rfl (mm rfl)) anil)) (gname 2 rfl (mm rfl)) (sone (sset 1 rfl (mm rfl) (bop bAdd (bv 1 rfl (mm rfl)) (nle (nlc [("_law_part", 3)] [3, 2] [3] [] (iL (bv 1 rfl (mm rfl))) (by kernel_rfl) (by kernel_rfl) (gname 3 rfl (mm rfl)) tsnil (bop bAdd (bv 3 rfl (mm rfl)) (btup (acons (bv 2 rfl (mm rfl)) anil))) (by decide))))))) (sone (sret (bv 1 rfl (mm rfl))))))
theorem df_law_sets_of (w : WOk W) : Df W 1 "_law_sets_of" 1 F_law_sets_of := df_of (N := ["_law_many", "_law_every", "_law_k", "_law_part"]) (ps := ["_law_many"]) w.bn (w.fns _ (mf 104 rfl)) (by decide +kernel) rfl rfl (by decide) (fun _ _ _ _ _ _ us hl => match us, hl with | [_], _ => rfl) (body_law_sets_of w)
def d_check_row : Gs := (seqS (ifS (notT (tb (b1 (gD 0) (oIsi "tuple")))) neverS nextS) (forS (itR1 (consA (c1 (consA (gD 0) nilA) oLen) nilA)) (setN 2) (ifS (notT (tb (fnV 1 (consA (b2 (gD 0) (gD 2) oIx) nilA)))) neverS nextS)))
def F_check_row : Fu → List D → Option D := runG 1 3 d_check_row
theorem body_check_row (w : WOk W) : BSs ⟨W, 8, defScope (topS 36), ["row", "looked", "number"], [0, 1, 2], [0, 1, 2], ["isinstance", "tuple", "NoDeed", "range", "len"], none⟩ (defBody (topS 36)) d_check_row :=
  (scons (sif (tnot (tval (bisi (T' := "tuple") 0 rfl 1 rfl (bv 0 rfl (mm rfl)) (by decide) rfl (by decide)))) ssnever snil) (sone (sfor (iR1 3 rfl (acons (blen0 4 (acons (bv 0 rfl (mm rfl)) anil) (fun _ => rfl) (fun _ => rfl) rfl) anil)) (gname 2 rfl (mm rfl)) (sone (sif (tnot (tval (bfn 1 rfl (mm rfl) (kfl w rfl) (acons (bix (bv 0 rfl (mm rfl)) (bv 2 rfl (mm rfl))) anil)))) ssnever snil)))))
theorem df_check_row (w : WOk W) : DfG W 9 "check_row" 1 F_check_row := dfG_of (N := ["row", "looked", "number"]) (ps := ["row", "looked"]) w.bn (w.fns _ (mf 20 rfl)) (by decide +kernel) rfl rfl (by decide) (fun _ _ _ _ _ _ us hl => match us, hl with | [_, _], _ => rfl) (body_check_row w)
end Qd
end
section
set_option Elab.async false
set_option linter.all false
set_option autoImplicit false
set_option maxRecDepth 100000
set_option maxHeartbeats 4000000
namespace Qd
open PySem
open PySem.Spec
open PyProof.Rows
open L2
variable {W : Wd}
def d_run : Gs := (seqS (exprS (lamV (consA (gD 1) nilA) F_check_row 7 (c1 (consA (c1 (consA (b2 (gD 0) (fun _ => some (.int 2)) oIx) nilA) oLen) (consA (gD 7) nilA)) F_is_deed))) (seqS (ownS 2 (lstV nilA)) (seqS (ownS 3 (lstV nilA)) (seqS (forS (itT (gD 1)) (setN 4) (seqS (asgS (c1 (consA (gD 0) (consA (gD 4) nilA)) F_deed_done) (tupG 3 (consG (setN 0) (consG (setN 5) (consG (setN 6) nilG))))) (seqS (appS 2 (gD 5)) (appS 3 (gD 6))))) (frzS 2 (frzS 3 (retS (tupV (consA (gD 0) (consA (gD 2) (consA (gD 3) nilA)))))))))))
def F_run : List D → Option D := runS 2 8 d_run
theorem body_run (w : WOk W) (c P : Addr) : BSs ⟨W, 9, defScope (topS 39), ["store", "row", "answers", "steps", "deed", "answer", "many", "thing"], [0, 1, 2, 3, 4, 5, 6], [0, 1, 2, 3, 4, 5, 6], ["check_row", "deed_done"], some (c, P, "run.<locals>.<lambda>")⟩ (defBody (topS 39)) d_run :=
  (scons (sexpr (blam (kl := 7) 0 7 "thing" [7, 0] ["is_deed", "len"] rfl (df_check_row w) runG_len (Nat.le_of_ble_eq_true rfl) rfl rfl (by kernel_rfl) (alcons (bv 1 rfl (mm rfl)) (al0 "thing" (by kernel_rfl))) (by kernel_rfl) (bcall 0 (df_is_deed w) runS_len (Nat.le_of_ble_eq_true rfl) rfl (acons (blen0 1 (acons (bix (bv 0 rfl (mm rfl)) bi) anil) (fun _ => rfl) (fun _ => rfl) rfl) (acons (bv 7 rfl (mm rfl)) anil))) (kfg w rfl))) (scons (sown (aN 2 rfl (mm rfl) (nlst anil))) (scons (sown (aN 3 rfl (mm rfl) (nlst anil))) (scons (sfor (iT (bv 1 rfl (mm rfl))) (gname 4 rfl (mm rfl)) (scons (sasg (bcall 1 (df_deed_done w) runS_len (Nat.le_of_ble_eq_true rfl) rfl (acons (bv 0 rfl (mm rfl)) (acons (bv 4 rfl (mm rfl)) anil))) (gtup (n := 3) (gcons (gname 0 rfl (mm rfl)) (gcons (gname 5 rfl (mm rfl)) (gcons (gname 6 rfl (mm rfl)) gnil))))) (scons (sapp 2 rfl (mm rfl) (bv 5 rfl (mm rfl))) (sone (sapp 3 rfl (mm rfl) (bv 6 rfl (mm rfl))))))) (sfrz 2 (sfrz 3 (sone (sret (btup (acons (bv 0 rfl (mm rfl)) (acons (bv 2 rfl (mm rfl)) (acons (bv 3 rfl (mm rfl)) anil))))))))))))
theorem df_run (w : WOk W) : Df W 10 "run" 2 F_run := by
  obtain ⟨c, P, h⟩ := w.m_run
  exact df_ofM (N := ["store", "row", "answers", "steps", "deed", "answer", "many", "thing"]) (ps := ["store", "row"]) w.bn h (by decide +kernel) (by decide +kernel) rfl rfl (by decide) (fun _ _ _ _ _ _ us hl => match us, hl with | [_, _], _ => rfl) (body_run w c P)
def d_takes_comes : Gs := (seqS (asgS (gD 0) (tupG 2 (consG (setN 3) (consG (setN 4) nilG)))) (seqS (ifS (orT (notT (tb (c1 (consA (gD 0) nilA) F_are_join_and_ups))) (notT (tb (c1 (consA (c1 (consA (gD 4) nilA) oLen) (consA (gD 1) nilA)) F_are_joins)))) (retS (fun _ => some (.bool false))) nextS) (seqS (asgS (c1 (consA (lsV (lcV (itT (gD 1)) (tupG 2 (consG (setN 5) (consG (setN 6) nilG))) yesT (tupV (consA (fun _ => some (.str "join")) (consA (gD 5) (consA (gD 6) nilA)))) [5, 6])) nilA) oTupOf) (setN 2)) (retS (b2 (b2 (b2 (c1 (consA (c1 (consA (c1 (consA (gD 4) nilA) oLen) (consA (gD 3) (consA (fun _ => some (.str "none")) nilA))) F_new_store) (consA (gD 2) nilA)) F_run) (fun _ => some (.int 0)) oIx) (fun _ => some (.int 2)) oIx) (gD 4) (oEqD false))))))
def F_takes_comes : List D → Option D := runS 2 7 d_takes_comes
theorem body_takes_comes (w : WOk W) : BSs ⟨W, 10, defScope (topS 63), ["parts", "paper", "row", "join", "ups", "x", "y"], [0, 1, 2, 3, 4], [0, 1, 2, 3, 4], ["are_join_and_ups", "are_joins", "len", "tuple", "run", "new_store"], none⟩ (defBody (topS 63)) d_takes_comes :=
  (scons (sasg (bv 0 rfl (mm rfl)) (gtup (n := 2) (gcons (gname 3 rfl (mm rfl)) (gcons (gname 4 rfl (mm rfl)) gnil)))) (scons (sif (tw (wor (tnot (tval (bcall 0 (df_are_join_and_ups w) runS_len (Nat.le_of_ble_eq_true rfl) rfl (acons (bv 0 rfl (mm rfl)) anil)))) (wor1 (tnot (tval (bcall 1 (df_are_joins w) runS_len (Nat.le_of_ble_eq_true rfl) rfl (acons (blen0 2 (acons (bv 4 rfl (mm rfl)) anil) (fun _ => rfl) (fun _ => rfl) rfl) (acons (bv 1 rfl (mm rfl)) anil)))))))) (sone (sret bb)) snil) (scons (sset 2 rfl (mm rfl) (btup0 3 (acons (nle (nlc [("x", 5), ("y", 6)] [5, 6] [5, 6] [] (iT (bv 1 rfl (mm rfl))) (by kernel_rfl) (by kernel_rfl) (gtup (n := 2) (gcons (gname 5 rfl (mm rfl)) (gcons (gname 6 rfl (mm rfl)) gnil))) tsnil (btup (acons bs (acons (bv 5 rfl (mm rfl)) (acons (bv 6 rfl (mm rfl)) anil)))) (by decide))) anil) (fun _ => rfl) (fun _ => rfl) rfl)) (sone (sret (bcm bEq (bix (bix (bcall 4 (df_run w) runS_len (Nat.le_of_ble_eq_true rfl) rfl (acons (bcall 5 (df_new_store w) runS_len (Nat.le_of_ble_eq_true rfl) rfl (acons (blen0 2 (acons (bv 4 rfl (mm rfl)) anil) (fun _ => rfl) (fun _ => rfl) rfl) (acons (bv 3 rfl (mm rfl)) (acons bs anil)))) (acons (bv 2 rfl (mm rfl)) anil))) bi) bi) (bv 4 rfl (mm rfl))))))))
theorem df_takes_comes (w : WOk W) : Df W 11 "takes_comes" 2 F_takes_comes := df_of (N := ["parts", "paper", "row", "join", "ups", "x", "y"]) (ps := ["parts", "paper"]) w.bn (w.fns _ (mf 44 rfl)) (by decide +kernel) rfl rfl (by decide) (fun _ _ _ _ _ _ us hl => match us, hl with | [_, _], _ => rfl) (body_takes_comes w)
def ktab : List KEnt := [⟨"one", 4, F_takes_one⟩, ⟨"apart", 4, F_takes_apart⟩, ⟨"first", 5, F_takes_first⟩, ⟨"comes", 2, F_takes_comes⟩, ⟨"never", 2, F_takes_never⟩, ⟨"fit", 3, F_takes_fit⟩, ⟨"clash", 3, F_takes_clash⟩, ⟨"together", 5, F_takes_together⟩, ⟨"not together", 5, F_takes_not_together⟩, ⟨"through", 4, F_takes_through⟩, ⟨"shut", 3, F_takes_shut⟩]
theorem ktab_len : ∀ p ∈ ktab, ∀ ds d, p.F ds = some d → ds.length = 2 := by
  intro p hp ds d h
  unfold ktab at hp
  simp only [List.mem_cons, List.not_mem_nil, or_false] at hp
  rcases hp with rfl | rfl | rfl | rfl | rfl | rfl | rfl | rfl | rfl | rfl | rfl <;> exact runS_len ds d h
theorem kinds_ok (w : WOk W) {kd : Addr} (K : KIs W kd) : KindsOk W 11 kd ktab := by
  refine ⟨K.mg, K.dict, fun p hp => ?_⟩
  unfold ktab at hp
  simp only [List.mem_cons, List.not_mem_nil, or_false] at hp
  rcases hp with rfl | rfl | rfl | rfl | rfl | rfl | rfl | rfl | rfl | rfl | rfl
  · exact kent K (mk_ 0 rfl) (df_takes_one w) (by decide)
  · exact kent K (mk_ 1 rfl) (df_takes_apart w) (by decide)
  · exact kent K (mk_ 2 rfl) (df_takes_first w) (by decide)
  · exact kent K (mk_ 3 rfl) (df_takes_comes w) (by decide)
  · exact kent K (mk_ 4 rfl) (df_takes_never w) (by decide)
  · exact kent K (mk_ 5 rfl) (df_takes_fit w) (by decide)
  · exact kent K (mk_ 6 rfl) (df_takes_clash w) (by decide)
  · exact kent K (mk_ 7 rfl) (df_takes_together w) (by decide)
  · exact kent K (mk_ 8 rfl) (df_takes_not_together w) (by decide)
  · exact kent K (mk_ 9 rfl) (df_takes_through w) (by decide)
  · exact kent K (mk_ 10 rfl) (df_takes_shut w) (by decide)
def d_holds : Gs := (seqS (ifS (orT (notT (tb (b1 (gD 0) (oIsi "tuple")))) (orT (tb (b2 (gD 0) (tupV nilA) (oEqD false))) (orT (notT (tb (b1 (b2 (gD 0) (fun _ => some (.int 0)) oIx) (oIsi "str")))) (tb (kNotIn ktab (b2 (gD 0) (fun _ => some (.int 0)) oIx)))))) (retS (fun _ => some (.bool false))) nextS) (holdsT ktab 2 3 (b2 (gD 0) (fun _ => some (.int 0)) oIx) (b2 (c1 (consA (gD 0) nilA) oLen) (b2 (gD 3) (fun _ => some (.int 1)) oAdd) (oEqD false)) (consA (slV (gD 0) (someP (fun _ => some (.int 1))) noP oSlT) (consA (gD 1) nilA))))
def F_holds : List D → Option D := runS 2 4 d_holds
theorem body_holds (w : WOk W) {kd : Addr} (KO : KindsOk W 11 kd ktab) : BSs ⟨W, 11, defScope (topS 99), ["claim", "paper", "taker", "many"], [0, 1, 2, 3], [0, 1, 2, 3], ["isinstance", "tuple", "str", "KINDS", "len"], none⟩ (defBody (topS 99)) d_holds :=
  (scons (sif (tw (wor (tnot (tval (bisi (T' := "tuple") 0 rfl 1 rfl (bv 0 rfl (mm rfl)) (by decide) rfl (by decide)))) (wor (tcm bEq (bv 0 rfl (mm rfl)) (btup anil)) (wor (tnot (tval (bisi (T' := "str") 0 rfl 2 rfl (bix (bv 0 rfl (mm rfl)) bi) (by decide) rfl (by decide)))) (wor1 (tkNotIn KO 3 rfl (bix (bv 0 rfl (mm rfl)) bi))))))) (sone (sret bb)) snil) (ss_holds KO (Nat.le_refl _) 3 rfl 2 3 rfl rfl (mm rfl) (mm rfl) (mm rfl) (by decide) (bix (bv 0 rfl (mm rfl)) bi) (bcm bEq (blen0 4 (acons (bv 0 rfl (mm rfl)) anil) (fun _ => rfl) (fun _ => rfl) rfl) (bop bAdd (bv 3 rfl (mm rfl)) bi)) (acons (bslT (bv 0 rfl (mm rfl)) (psome bi) pno) (acons (bv 1 rfl (mm rfl)) anil)) ktab_len))
theorem df_holds (w : WOk W) : Df W 12 "holds" 2 F_holds := by
  obtain ⟨kd, K⟩ := w.kinds
  exact df_of (N := ["claim", "paper", "taker", "many"]) (ps := ["claim", "paper"]) w.bn (w.fns _ (mf 73 rfl)) (by decide +kernel) rfl rfl (by decide) (fun _ _ _ _ _ _ us hl => match us, hl with | [_, _], _ => rfl) (body_holds w (kinds_ok w K))
def d_led_from : Gs := (seqS (odiS 2) (seqS (forS (itL (gD 0)) (setN 3) (dputS 2 (gD 3) (fun _ => some .none))) (seqS (ownS 4 (cN (consA (gD 0) nilA) oListOf)) (seqS (asgS (fun _ => some (.int 0)) (setN 5)) (seqS (whS (tb (b2 (gD 5) (lenO 4) (oB fun i j => decide (i < j)))) (seqS (forS (itL (fnV 1 (consA (ixO 4 (gD 5)) nilA))) (setN 6) (ifS (tb (dinO true (gD 6) 2)) (seqS (dputS 2 (gD 6) (ixO 4 (gD 5))) (appS 4 (gD 6))) nextS)) (augS 5 (fun _ => some (.int 1)) (oI fun i j => i + j))) 60) (frkS 2 (retS (gD 2))))))))
def F_led_from : Fu → List D → Option D := runG 1 7 d_led_from
theorem body_led_from (w : WOk W) : BSs ⟨W, 8, defScope (topS 103), ["starts", "near", "came", "spot", "waiting", "at", "other"], [0, 1, 2, 3, 4, 5, 6], [0, 1, 2, 3, 4, 5, 6], ["list", "len"], none⟩ (defBody (topS 103)) d_led_from :=
  (scons (sodi 2 rfl (mm rfl)) (scons (sfor (iL (bv 0 rfl (mm rfl))) (gname 3 rfl (mm rfl)) (sone (sdput 2 rfl (mm rfl) (bv 3 rfl (mm rfl)) bnon))) (scons (sown (aN 4 rfl (mm rfl) (nlist0 0 (acons (bv 0 rfl (mm rfl)) anil) (fun _ => rfl) (fun _ => rfl) rfl))) (scons (sset 5 rfl (mm rfl) bi) (scons (swh 60 (tcm bLt (bv 5 rfl (mm rfl)) (oLenO 4 rfl (mm rfl) 1 rfl)) (scons (sfor (iL (bfn 1 rfl (mm rfl) (kfl w rfl) (acons (oIxO 4 rfl (mm rfl) (bv 5 rfl (mm rfl))) anil))) (gname 6 rfl (mm rfl)) (sone (sif (tdninO 2 rfl (mm rfl) (bv 6 rfl (mm rfl))) (scons (sdput 2 rfl (mm rfl) (bv 6 rfl (mm rfl)) (oIxO 4 rfl (mm rfl) (bv 5 rfl (mm rfl)))) (sone (sapp 4 rfl (mm rfl) (bv 6 rfl (mm rfl))))) snil))) (sone (saugA 5 rfl (mm rfl) bi)))) (sfrk 2 (sone (sret (bv 2 rfl (mm rfl))))))))))
theorem df_led_from (w : WOk W) : DfG W 9 "led_from" 1 F_led_from := dfG_of (N := ["starts", "near", "came", "spot", "waiting", "at", "other"]) (ps := ["starts", "near"]) w.bn (w.fns _ (mf 75 rfl)) (by decide +kernel) rfl rfl (by decide) (fun _ _ _ _ _ _ us hl => match us, hl with | [_, _], _ => rfl) (body_led_from w)
def d_way_through : Gs := (seqS (asgS (cG (consG' (gD 0) (fnA 2)) F_led_from) (setN 3)) (seqS (asgS (lsV (lcV (itL (gD 1)) (setN 6) (tb (b2 (gD 6) (gD 3) (oDin false))) (gD 6) [6])) (setN 4)) (seqS (ifS (tb (b2 (gD 4) (lsV (lstV nilA)) (oEqD false))) (retS (fun _ => some .none)) nextS) (seqS (ownS 5 (lstV (consA (b2 (gD 4) (fun _ => some (.int 0)) oIx) nilA))) (seqS (whS (tb (b2 (b2 (gD 3) (ixO 5 (b1 (fun _ => some (.int 1)) oNeg)) oDget) (fun _ => some .none) (oIsN true))) (appS 5 (b2 (gD 3) (ixO 5 (b1 (fun _ => some (.int 1)) oNeg)) oDget)) 60) (frzS 5 (retS (c1 (consA (lsV (revV (gD 5))) nilA) oTupOf))))))))
def F_way_through : Fu → List D → Option D := runG 2 7 d_way_through
theorem body_way_through (w : WOk W) : BSs ⟨W, 9, defScope (topS 107), ["starts", "ends", "near", "came", "reached", "way", "spot"], [0, 1, 2, 3, 4, 5], [0, 1, 2, 3, 4, 5], ["led_from", "tuple"], none⟩ (defBody (topS 107)) d_way_through :=
  (scons (sset 3 rfl (mm rfl) (bcallG 0 (df_led_from w) runG_len (Nat.le_of_ble_eq_true rfl) rfl (agcons (bv 0 rfl (mm rfl)) (agfn 2 rfl (mm rfl))))) (scons (sdat (aLc 4 [("spot", 6)] [6, 3] [6] [] rfl rfl rfl rfl (iL (bv 1 rfl (mm rfl))) (by kernel_rfl) (by kernel_rfl) (gname 6 rfl (mm rfl)) (tsone (tdin (bv 6 rfl (mm rfl)) (bv 3 rfl (mm rfl)))) (bv 6 rfl (mm rfl)) (by decide))) (scons (sif (tcm bEq (bv 4 rfl (mm rfl)) (nle (nlst anil))) (sone (sret bnon)) snil) (scons (sown (aN 5 rfl (mm rfl) (nlst (acons (bix (bv 4 rfl (mm rfl)) bi) anil)))) (scons (swh 60 (tcm bIsNot (bdget (bv 3 rfl (mm rfl)) (oIxO 5 rfl (mm rfl) (bneg bi))) bnon) (sone (sapp 5 rfl (mm rfl) (bdget (bv 3 rfl (mm rfl)) (oIxO 5 rfl (mm rfl) (bneg bi)))))) (sfrz 5 (sone (sret (btup0 1 (acons (nle (nrev (bv 5 rfl (mm rfl)))) anil) (fun _ => rfl) (fun _ => rfl) rfl)))))))))
theorem df_way_through (w : WOk W) : DfG W 10 "way_through" 2 F_way_through := dfG_of (N := ["starts", "ends", "near", "came", "reached", "way", "spot"]) (ps := ["starts", "ends", "near"]) w.bn (w.fns _ (mf 78 rfl)) (by decide +kernel) rfl rfl (by decide) (fun _ _ _ _ _ _ us hl => match us, hl with | [_, _, _], _ => rfl) (body_way_through w)
def d_open_road : Gs := (seqS (asgS (lsV (lcV (itR1 (consA (gD 1) nilA)) (setN 5) (tb (b2 (gD 5) (gD 2) (oDin false))) (gD 5) [5])) (setN 3)) (seqS (asgS (lsV (lcV (itR2 (consA (b2 (b2 (gD 0) (fun _ => some (.int 1)) (oI fun i j => i - j)) (gD 1) oMul) (consA (b2 (gD 0) (gD 1) oMul) nilA))) (setN 5) (tb (b2 (gD 5) (gD 2) (oDin false))) (gD 5) [5])) (setN 4)) (retS (lamV (consA (gD 3) (consA (gD 4) nilA)) F_way_through 6 (lsV (lcV (itL (c1 (consA (gD 0) (consA (gD 1) (consA (gD 6) nilA))) F_beside)) (setN 5) (tb (b2 (gD 5) (gD 2) (oDin false))) (gD 5) [5]))))))
def F_open_road : List D → Option D := runS 3 7 d_open_road
theorem body_open_road (w : WOk W) (c P : Addr) : BSs ⟨W, 10, defScope (topS 108), ["high", "wide", "opened", "starts", "ends", "spot", "at"], [0, 1, 2, 3, 4], [0, 1, 2, 3, 4], ["range", "way_through"], some (c, P, "open_road.<locals>.<lambda>")⟩ (defBody (topS 108)) d_open_road :=
  (scons (sdat (aLc 3 [("spot", 5)] [5, 2] [5] [] rfl rfl rfl rfl (iR1 0 rfl (acons (bv 1 rfl (mm rfl)) anil)) (by kernel_rfl) (by kernel_rfl) (gname 5 rfl (mm rfl)) (tsone (tdin (bv 5 rfl (mm rfl)) (bv 2 rfl (mm rfl)))) (bv 5 rfl (mm rfl)) (by decide))) (scons (sdat (aLc 4 [("spot", 5)] [5, 2] [5] [] rfl rfl rfl rfl (iR2 0 rfl (acons (bop bMul (bop bSub (bv 0 rfl (mm rfl)) bi) (bv 1 rfl (mm rfl))) (acons (bop bMul (bv 0 rfl (mm rfl)) (bv 1 rfl (mm rfl))) anil))) (by kernel_rfl) (by kernel_rfl) (gname 5 rfl (mm rfl)) (tsone (tdin (bv 5 rfl (mm rfl)) (bv 2 rfl (mm rfl)))) (bv 5 rfl (mm rfl)) (by decide))) (sone (sret (blam (kl := 7) 1 6 "at" [0, 1, 6, 2] ["beside"] rfl (df_way_through w) runG_len (Nat.le_of_ble_eq_true rfl) rfl rfl (by kernel_rfl) (alcons (bv 3 rfl (mm rfl)) (alcons (bv 4 rfl (mm rfl)) (al0 "at" (by kernel_rfl)))) (by kernel_rfl) (nle (nlc [("spot", 5)] [5, 2] [5] [] (iL (bcall 0 (df_beside w) runS_len (Nat.le_of_ble_eq_true rfl) rfl (acons (bv 0 rfl (mm rfl)) (acons (bv 1 rfl (mm rfl)) (acons (bv 6 rfl (mm rfl)) anil))))) (by kernel_rfl) (by kernel_rfl) (gname 5 rfl (mm rfl)) (tsone (tdin (bv 5 rfl (mm rfl)) (bv 2 rfl (mm rfl)))) (bv 5 rfl (mm rfl)) (by decide))) (kfg w rfl))))))
theorem df_open_road (w : WOk W) : Df W 11 "open_road" 3 F_open_road := by
  obtain ⟨c, P, h⟩ := w.m_open_road
  exact df_ofM (N := ["high", "wide", "opened", "starts", "ends", "spot", "at"]) (ps := ["high", "wide", "opened"]) w.bn h (by decide +kernel) (by decide +kernel) rfl rfl (by decide) (fun _ _ _ _ _ _ us hl => match us, hl with | [_, _, _], _ => rfl) (body_open_road w c P)
def d_wall : Gs := (seqS (asgS (lsV (lcV (itR1 (consA (gD 0) nilA)) (setN 5) (tb (b2 (b2 (gD 5) (gD 1) oMul) (gD 2) (oDin true))) (b2 (gD 5) (gD 1) oMul) [5])) (setN 3)) (seqS (asgS (lsV (lcV (itR1 (consA (gD 0) nilA)) (setN 5) (tb (b2 (b2 (b2 (b2 (gD 5) (gD 1) oMul) (gD 1) oAdd) (fun _ => some (.int 1)) (oI fun i j => i - j)) (gD 2) (oDin true))) (b2 (b2 (b2 (gD 5) (gD 1) oMul) (gD 1) oAdd) (fun _ => some (.int 1)) (oI fun i j => i - j)) [5])) (setN 4)) (retS (lamV (consA (gD 3) (consA (gD 4) nilA)) F_way_through 7 (lsV (lcV (itL (c1 (consA (gD 0) (consA (gD 1) (consA (gD 7) nilA))) F_around)) (setN 6) (tb (b2 (gD 6) (gD 2) (oDin true))) (gD 6) [6]))))))
def F_wall : List D → Option D := runS 3 8 d_wall
theorem body_wall (w : WOk W) (c P : Addr) : BSs ⟨W, 10, defScope (topS 109), ["high", "wide", "opened", "starts", "ends", "row", "spot", "at"], [0, 1, 2, 3, 4], [0, 1, 2, 3, 4], ["range", "way_through"], some (c, P, "wall.<locals>.<lambda>")⟩ (defBody (topS 109)) d_wall :=
  (scons (sdat (aLc 3 [("row", 5)] [5, 1, 2] [5] [] rfl rfl rfl rfl (iR1 0 rfl (acons (bv 0 rfl (mm rfl)) anil)) (by kernel_rfl) (by kernel_rfl) (gname 5 rfl (mm rfl)) (tsone (tdnin (bop bMul (bv 5 rfl (mm rfl)) (bv 1 rfl (mm rfl))) (bv 2 rfl (mm rfl)))) (bop bMul (bv 5 rfl (mm rfl)) (bv 1 rfl (mm rfl))) (by decide))) (scons (sdat (aLc 4 [("row", 5)] [5, 1, 2] [5] [] rfl rfl rfl rfl (iR1 0 rfl (acons (bv 0 rfl (mm rfl)) anil)) (by kernel_rfl) (by kernel_rfl) (gname 5 rfl (mm rfl)) (tsone (tdnin (bop bSub (bop bAdd (bop bMul (bv 5 rfl (mm rfl)) (bv 1 rfl (mm rfl))) (bv 1 rfl (mm rfl))) bi) (bv 2 rfl (mm rfl)))) (bop bSub (bop bAdd (bop bMul (bv 5 rfl (mm rfl)) (bv 1 rfl (mm rfl))) (bv 1 rfl (mm rfl))) bi) (by decide))) (sone (sret (blam (kl := 7) 1 7 "at" [0, 1, 7, 2] ["around"] rfl (df_way_through w) runG_len (Nat.le_of_ble_eq_true rfl) rfl rfl (by kernel_rfl) (alcons (bv 3 rfl (mm rfl)) (alcons (bv 4 rfl (mm rfl)) (al0 "at" (by kernel_rfl)))) (by kernel_rfl) (nle (nlc [("spot", 6)] [6, 2] [6] [] (iL (bcall 0 (df_around w) runS_len (Nat.le_of_ble_eq_true rfl) rfl (acons (bv 0 rfl (mm rfl)) (acons (bv 1 rfl (mm rfl)) (acons (bv 7 rfl (mm rfl)) anil))))) (by kernel_rfl) (by kernel_rfl) (gname 6 rfl (mm rfl)) (tsone (tdnin (bv 6 rfl (mm rfl)) (bv 2 rfl (mm rfl)))) (bv 6 rfl (mm rfl)) (by decide))) (kfg w rfl))))))
theorem df_wall (w : WOk W) : Df W 11 "wall" 3 F_wall := by
  obtain ⟨c, P, h⟩ := w.m_wall
  exact df_ofM (N := ["high", "wide", "opened", "starts", "ends", "row", "spot", "at"]) (ps := ["high", "wide", "opened"]) w.bn h (by decide +kernel) (by decide +kernel) rfl rfl (by decide) (fun _ _ _ _ _ _ us hl => match us, hl with | [_, _, _], _ => rfl) (body_wall w c P)
def d_seeps : Gs := (seqS (exprS (c1 (consA (gD 0) (consA (gD 1) nilA)) F_check_sides)) (seqS (exprS (lamV (consA (gD 2) nilA) F_check_row 7 (c1 (consA (b2 (gD 0) (gD 1) oMul) (consA (gD 7) nilA)) F_is_thing))) (seqS (odiS 3) (seqS (forS (itR1 (consA (c1 (consA (gD 2) nilA) oLen) nilA)) (setN 4) (seqS (asgS (c1b (consA (gD 0) (consA (gD 1) (odiA 3))) F_wall) (setN 5)) (seqS (dputS 3 (b2 (gD 2) (gD 4) oIx) (fun _ => some (.bool true))) (seqS (asgS (c1b (consA (gD 0) (consA (gD 1) (odiA 3))) F_open_road) (setN 6)) (ifS (tb (b2 (gD 6) (fun _ => some .none) (oIsN true))) (retS (tupV (consA (fun _ => some (.str "through")) (consA (b2 (gD 4) (fun _ => some (.int 1)) oAdd) (consA (gD 6) (consA (gD 5) nilA)))))) nextS))))) (retS (tupV (consA (fun _ => some (.str "shut")) (consA (c1b (consA (gD 0) (consA (gD 1) (odiA 3))) F_wall) nilA))))))))
def F_seeps : List D → Option D := runS 3 8 d_seeps
theorem body_seeps (w : WOk W) (c P : Addr) : BSs ⟨W, 11, defScope (topS 110), ["high", "wide", "row", "opened", "number", "ahead", "road", "spot"], [0, 1, 2, 3, 4, 5, 6], [0, 1, 2, 3, 4, 5, 6], ["check_sides", "check_row", "range", "len", "wall", "open_road"], some (c, P, "seeps.<locals>.<lambda>")⟩ (defBody (topS 110)) d_seeps :=
  (scons (sexpr (bcall 0 (df_check_sides w) runS_len (Nat.le_of_ble_eq_true rfl) rfl (acons (bv 0 rfl (mm rfl)) (acons (bv 1 rfl (mm rfl)) anil)))) (scons (sexpr (blam (kl := 7) 1 7 "spot" [7, 0, 1] ["is_thing"] rfl (df_check_row w) runG_len (Nat.le_of_ble_eq_true rfl) rfl rfl (by kernel_rfl) (alcons (bv 2 rfl (mm rfl)) (al0 "spot" (by kernel_rfl))) (by kernel_rfl) (bcall 0 (df_is_thing w) runS_len (Nat.le_of_ble_eq_true rfl) rfl (acons (bop bMul (bv 0 rfl (mm rfl)) (bv 1 rfl (mm rfl))) (acons (bv 7 rfl (mm rfl)) anil))) (kfg w rfl))) (scons (sodi 3 rfl (mm rfl)) (scons (sfor (iR1 2 rfl (acons (blen0 3 (acons (bv 2 rfl (mm rfl)) anil) (fun _ => rfl) (fun _ => rfl) rfl) anil)) (gname 4 rfl (mm rfl)) (scons (sset 5 rfl (mm rfl) (bcallB 4 (df_wall w) (len_consA (len_consA len_odiA)) (Nat.le_of_ble_eq_true rfl) rfl (abcons (bv 0 rfl (mm rfl)) (abcons (bv 1 rfl (mm rfl)) (abodi 3 rfl (mm rfl)))))) (scons (sdput 3 rfl (mm rfl) (bix (bv 2 rfl (mm rfl)) (bv 4 rfl (mm rfl))) bb) (scons (sset 6 rfl (mm rfl) (bcallB 5 (df_open_road w) (len_consA (len_consA len_odiA)) (Nat.le_of_ble_eq_true rfl) rfl (abcons (bv 0 rfl (mm rfl)) (abcons (bv 1 rfl (mm rfl)) (abodi 3 rfl (mm rfl)))))) (sone (sif (tcm bIsNot (bv 6 rfl (mm rfl)) bnon) (sone (sret (btup (acons bs (acons (bop bAdd (bv 4 rfl (mm rfl)) bi) (acons (bv 6 rfl (mm rfl)) (acons (bv 5 rfl (mm rfl)) anil))))))) snil)))))) (sone (sret (btup (acons bs (acons (bcallB 4 (df_wall w) (len_consA (len_consA len_odiA)) (Nat.le_of_ble_eq_true rfl) rfl (abcons (bv 0 rfl (mm rfl)) (abcons (bv 1 rfl (mm rfl)) (abodi 3 rfl (mm rfl))))) anil)))))))))
theorem df_seeps (w : WOk W) : Df W 12 "seeps" 3 F_seeps := by
  obtain ⟨c, P, h⟩ := w.m_seeps
  exact df_ofM (N := ["high", "wide", "row", "opened", "number", "ahead", "road", "spot"]) (ps := ["high", "wide", "row"]) w.bn h (by decide +kernel) (by decide +kernel) rfl rfl (by decide) (fun _ _ _ _ _ _ us hl => match us, hl with | [_, _, _], _ => rfl) (body_seeps w c P)
def d_paper_seeps : Gs := (seqS (asgS (c1 (consA (gD 0) (consA (gD 1) (consA (gD 2) nilA))) F_seeps) (setN 3)) (seqS (ifS (tb (b2 (b2 (gD 3) (fun _ => some (.int 0)) oIx) (fun _ => some (.str "shut")) (oEqD false))) (retS (tupV (consA (tupV (consA (fun _ => some (.str "shut")) (consA (gD 0) (consA (gD 1) (consA (gD 2) nilA))))) (consA (b2 (gD 3) (fun _ => some (.int 1)) oIx) nilA)))) nextS) (retS (tupV (consA (tupV (consA (fun _ => some (.str "through")) (consA (gD 0) (consA (gD 1) (consA (gD 2) (consA (b2 (gD 3) (fun _ => some (.int 1)) oIx) nilA)))))) (consA (slV (gD 3) (someP (fun _ => some (.int 2))) noP oSlT) nilA))))))
def F_paper_seeps : List D → Option D := runS 3 4 d_paper_seeps
theorem body_paper_seeps (w : WOk W) : BSs ⟨W, 12, defScope (topS 122), ["high", "wide", "row", "told"], [0, 1, 2, 3], [0, 1, 2, 3], ["seeps"], none⟩ (defBody (topS 122)) d_paper_seeps :=
  (scons (sset 3 rfl (mm rfl) (bcall 0 (df_seeps w) runS_len (Nat.le_of_ble_eq_true rfl) rfl (acons (bv 0 rfl (mm rfl)) (acons (bv 1 rfl (mm rfl)) (acons (bv 2 rfl (mm rfl)) anil))))) (scons (sif (tcm bEq (bix (bv 3 rfl (mm rfl)) bi) bs) (sone (sret (btup (acons (btup (acons bs (acons (bv 0 rfl (mm rfl)) (acons (bv 1 rfl (mm rfl)) (acons (bv 2 rfl (mm rfl)) anil))))) (acons (bix (bv 3 rfl (mm rfl)) bi) anil))))) snil) (sone (sret (btup (acons (btup (acons bs (acons (bv 0 rfl (mm rfl)) (acons (bv 1 rfl (mm rfl)) (acons (bv 2 rfl (mm rfl)) (acons (bix (bv 3 rfl (mm rfl)) bi) anil)))))) (acons (bslT (bv 3 rfl (mm rfl)) (psome bi) pno) anil)))))))
theorem df_paper_seeps (w : WOk W) : Df W 13 "paper_seeps" 3 F_paper_seeps := df_of (N := ["high", "wide", "row", "told"]) (ps := ["high", "wide", "row"]) w.bn (w.fns _ (mf 91 rfl)) (by decide +kernel) rfl rfl (by decide) (fun _ _ _ _ _ _ us hl => match us, hl with | [_, _, _], _ => rfl) (body_paper_seeps w)
def d_law_two_right : Gs := (seqS (asgS (tupV (consA (gD 0) (consA (gD 1) (consA (gD 2) (consA (gD 3) nilA))))) (setN 4)) (seqS (asgS (lsV (lcV (itL (c1 (consA (c1 (consA (gD 1) nilA) oLen) (consA (fun _ => some (.int 3)) nilA)) F_law_rows_of)) (setN 11) (tb (c1 (consA (b2 (tupV (consA (fun _ => some (.str "one")) nilA)) (gD 4) oAdd) (consA (gD 11) nilA)) F_holds)) (gD 11) [11])) (setN 5)) (seqS (asgS (lsV (lcV (itL (c1 (consA (gD 0) nilA) F_law_sets_of)) (setN 10) (tb (c1 (consA (b2 (tupV (consA (fun _ => some (.str "apart")) nilA)) (gD 4) oAdd) (consA (gD 10) nilA)) F_holds)) (gD 10) [10])) (setN 6)) (seqS (ifS (tb (b2 (b2 (gD 5) (lsV (lstV nilA)) (oEqD false)) (b2 (gD 6) (lsV (lstV nilA)) (oEqD true)) (oEqD true))) (retS (fun _ => some (.bool false))) nextS) (seqS (ownS 7 (lstV nilA)) (seqS (forS (itR1 (consA (b2 (c1 (consA (gD 1) nilA) oLen) (fun _ => some (.int 2)) oAdd) nilA)) (setN 8) (seqS (asgS (tupV (consA (fun _ => some (.str "first")) (consA (gD 0) (consA (gD 1) (consA (gD 2) (consA (gD 3) (consA (gD 8) nilA))))))) (setN 9)) (forS (itL (c1 (consA (gD 0) nilA) F_law_sets_of)) (setN 10) (ifS (andT (tb (inO true (gD 8) 7)) (tb (c1 (consA (lsV (lcV (itL (gD 5)) (setN 11) yesT (c1 (consA (gD 9) (consA (tupV (consA (gD 11) (consA (gD 10) nilA))) nilA)) F_holds) [11])) nilA) oAny))) (appS 7 (gD 8)) nextS)))) (retS (b2 (lenO 7) (c1 (consA (b2 (gD 5) (lsV (lstV nilA)) (oEqD true)) nilA) oInt) (oEqD false)))))))))
def F_law_two_right : List D → Option D := runS 4 12 d_law_two_right
theorem body_law_two_right (w : WOk W) : BSs ⟨W, 12, defScope (topS 137), ["_law_many", "_law_row", "_law_x", "_law_y", "_law_parts", "_law_roads", "_law_sets", "_law_moments", "_law_moment", "_law_claim", "_law_some", "_law_road"], [0, 1, 2, 3, 4, 5, 6, 7, 8, 9, 10], [0, 1, 2, 3, 4, 5, 6, 7, 8, 9, 10], ["_law_rows_of", "len", "_law_sets_of", "range", "any", "int"], none⟩ (defBody (topS 137)) d_law_two_right :=
  (scons (sset 4 rfl (mm rfl) (btup (acons (bv 0 rfl (mm rfl)) (acons (bv 1 rfl (mm rfl)) (acons (bv 2 rfl (mm rfl)) (acons (bv 3 rfl (mm rfl)) anil)))))) (scons (sdat (aLc 5 [("_law_road", 11)] [11, 4] [11] ["holds"] rfl rfl rfl rfl (iL (bcall 0 (df_law_rows_of w) runS_len (Nat.le_of_ble_eq_true rfl) rfl (acons (blen0 1 (acons (bv 1 rfl (mm rfl)) anil) (fun _ => rfl) (fun _ => rfl) rfl) (acons bi anil)))) (by kernel_rfl) (by kernel_rfl) (gname 11 rfl (mm rfl)) (tsone (tval (bcall 0 (df_holds w) runS_len (Nat.le_of_ble_eq_true rfl) rfl (acons (bop bAdd (btup (acons bs anil)) (bv 4 rfl (mm rfl))) (acons (bv 11 rfl (mm rfl)) anil))))) (bv 11 rfl (mm rfl)) (by decide))) (scons (sdat (aLc 6 [("_law_some", 10)] [10, 4] [10] ["holds"] rfl rfl rfl rfl (iL (bcall 2 (df_law_sets_of w) runS_len (Nat.le_of_ble_eq_true rfl) rfl (acons (bv 0 rfl (mm rfl)) anil))) (by kernel_rfl) (by kernel_rfl) (gname 10 rfl (mm rfl)) (tsone (tval (bcall 0 (df_holds w) runS_len (Nat.le_of_ble_eq_true rfl) rfl (acons (bop bAdd (btup (acons bs anil)) (bv 4 rfl (mm rfl))) (acons (bv 10 rfl (mm rfl)) anil))))) (bv 10 rfl (mm rfl)) (by decide))) (scons (sif (tcm bNe (bcm bEq (bv 5 rfl (mm rfl)) (nle (nlst anil))) (bcm bNe (bv 6 rfl (mm rfl)) (nle (nlst anil)))) (sone (sret bb)) snil) (scons (sown (aN 7 rfl (mm rfl) (nlst anil))) (scons (sfor (iR1 3 rfl (acons (bop bAdd (blen0 1 (acons (bv 1 rfl (mm rfl)) anil) (fun _ => rfl) (fun _ => rfl) rfl) bi) anil)) (gname 8 rfl (mm rfl)) (scons (sset 9 rfl (mm rfl) (btup (acons bs (acons (bv 0 rfl (mm rfl)) (acons (bv 1 rfl (mm rfl)) (acons (bv 2 rfl (mm rfl)) (acons (bv 3 rfl (mm rfl)) (acons (bv 8 rfl (mm rfl)) anil)))))))) (sone (sfor (iL (bcall 2 (df_law_sets_of w) runS_len (Nat.le_of_ble_eq_true rfl) rfl (acons (bv 0 rfl (mm rfl)) anil))) (gname 10 rfl (mm rfl)) (sone (sif (tw (wand (tNinO 7 rfl (mm rfl) (bv 8 rfl (mm rfl))) (wand1 (tval (bany0 4 (acons (nle (nlc [("_law_road", 11)] [11, 9, 10] [11] ["holds"] (iL (bv 5 rfl (mm rfl))) (by kernel_rfl) (by kernel_rfl) (gname 11 rfl (mm rfl)) tsnil (bcall 0 (df_holds w) runS_len (Nat.le_of_ble_eq_true rfl) rfl (acons (bv 9 rfl (mm rfl)) (acons (btup (acons (bv 11 rfl (mm rfl)) (acons (bv 10 rfl (mm rfl)) anil))) anil))) (by decide))) anil) (fun _ => rfl) (fun _ => rfl) rfl))))) (sone (sapp 7 rfl (mm rfl) (bv 8 rfl (mm rfl)))) snil)))))) (sone (sret (bcm bEq (oLenO 7 rfl (mm rfl) 1 rfl) (bint0 5 (acons (bcm bNe (bv 5 rfl (mm rfl)) (nle (nlst anil))) anil) (fun _ => rfl) (fun _ => rfl) rfl))))))))))
theorem df_law_two_right (w : WOk W) : Df W 13 "_law_two_right" 4 F_law_two_right := df_of (N := ["_law_many", "_law_row", "_law_x", "_law_y", "_law_parts", "_law_roads", "_law_sets", "_law_moments", "_law_moment", "_law_claim", "_law_some", "_law_road"]) (ps := ["_law_many", "_law_row", "_law_x", "_law_y"]) w.bn (w.fns _ (mf 105 rfl)) (by decide +kernel) rfl rfl (by decide) (fun _ _ _ _ _ _ us hl => match us, hl with | [_, _, _, _], _ => rfl) (body_law_two_right w)
def d_law_shape_right : Gs := (seqS (asgS (lsV (lcV (itR1 (consA (c1 (consA (gD 1) nilA) oLen) nilA)) (setN 5) (tb (c1 (consA (tupV (consA (fun _ => some (.str "never")) (consA (gD 0) (consA (gD 1) nilA)))) (consA (gD 5) nilA)) F_holds)) (gD 5) [5])) (setN 2)) (seqS (asgS (c1 (consA (gD 0) (consA (gD 1) nilA)) F_can_come) (setN 3)) (seqS (asgS (andV (b2 (b2 (gD 3) (fun _ => some (.int 0)) oIx) (fun _ => some (.str "comes")) (oEqD false)) (b2 (c1 (consA (tupV (consA (fun _ => some (.str "comes")) (consA (gD 0) (consA (gD 1) nilA)))) (consA (b2 (gD 3) (fun _ => some (.int 1)) oIx) nilA)) F_holds) (fun _ => some (.bool true)) oIsB)) (setN 4)) (retS (andV (b2 (gD 4) (b2 (gD 2) (lsV (lstV nilA)) (oEqD false)) (oEqD false)) (orV (b2 (b2 (gD 3) (fun _ => some (.int 0)) oIx) (fun _ => some (.str "never")) (oEqD true)) (b2 (lsV (slV (gD 2) noP (someP (fun _ => some (.int 1))) oSlL)) (lsV (lstV (consA (b2 (gD 3) (fun _ => some (.int 1)) oIx) nilA))) (oEqD false))))))))
def F_law_shape_right : List D → Option D := runS 2 6 d_law_shape_right
theorem body_law_shape_right (w : WOk W) : BSs ⟨W, 12, defScope (topS 138), ["_law_join", "_law_ups", "_law_shown", "_law_told", "_law_taken", "_law_x"], [0, 1, 2, 3, 4], [0, 1, 2, 3, 4], ["range", "len", "can_come", "holds"], none⟩ (defBody (topS 138)) d_law_shape_right :=
  (scons (sdat (aLc 2 [("_law_x", 5)] [5, 0, 1] [5] ["holds"] rfl rfl rfl rfl (iR1 0 rfl (acons (blen0 1 (acons (bv 1 rfl (mm rfl)) anil) (fun _ => rfl) (fun _ => rfl) rfl) anil)) (by kernel_rfl) (by kernel_rfl) (gname 5 rfl (mm rfl)) (tsone (tval (bcall 0 (df_holds w) runS_len (Nat.le_of_ble_eq_true rfl) rfl (acons (btup (acons bs (acons (bv 0 rfl (mm rfl)) (acons (bv 1 rfl (mm rfl)) anil)))) (acons (bv 5 rfl (mm rfl)) anil))))) (bv 5 rfl (mm rfl)) (by decide))) (scons (sset 3 rfl (mm rfl) (bcall 2 (df_can_come w) runS_len (Nat.le_of_ble_eq_true rfl) rfl (acons (bv 0 rfl (mm rfl)) (acons (bv 1 rfl (mm rfl)) anil)))) (scons (sset 4 rfl (mm rfl) (band (bcm bEq (bix (bv 3 rfl (mm rfl)) bi) bs) (bone (bcm bIsB (bcall 3 (df_holds w) runS_len (Nat.le_of_ble_eq_true rfl) rfl (acons (btup (acons bs (acons (bv 0 rfl (mm rfl)) (acons (bv 1 rfl (mm rfl)) anil)))) (acons (bix (bv 3 rfl (mm rfl)) bi) anil))) bb)))) (sone (sret (band (bcm bEq (bv 4 rfl (mm rfl)) (bcm bEq (bv 2 rfl (mm rfl)) (nle (nlst anil)))) (bone (bor (bcm bNe (bix (bv 3 rfl (mm rfl)) bi) bs) (bone (bcm bEq (nle (nslL (bv 2 rfl (mm rfl)) pno (psome bi))) (nle (nlst (acons (bix (bv 3 rfl (mm rfl)) bi) anil)))))))))))))
theorem df_law_shape_right (w : WOk W) : Df W 13 "_law_shape_right" 2 F_law_shape_right := df_of (N := ["_law_join", "_law_ups", "_law_shown", "_law_told", "_law_taken", "_law_x"]) (ps := ["_law_join", "_law_ups"]) w.bn (w.fns _ (mf 106 rfl)) (by decide +kernel) rfl rfl (by decide) (fun _ _ _ _ _ _ us hl => match us, hl with | [_, _], _ => rfl) (body_law_shape_right w)
def d_law_tellings_right : Gs := (seqS (asgS (lsV (lcV (itL (c1 (consA (gD 1) (consA (gD 0) nilA)) F_law_rows_of)) (setN 8) (tb (b2 (c1 (consA (gD 8) nilA) oLen) (gD 0) (oEqD false))) (gD 8) [8])) (setN 3)) (seqS (asgS (lsV (lcV (itL (gD 3)) (setN 8) (tb (c1 (consA (tupV (consA (fun _ => some (.str "fit")) (consA (gD 0) (consA (gD 1) (consA (gD 2) nilA))))) (consA (gD 8) nilA)) F_holds)) (gD 8) [8])) (setN 4)) (seqS (asgS (lsV (lstV nilA)) (setN 5)) (seqS (forS (itR1 (consA (c1 (consA (gD 2) nilA) oLen) nilA)) (setN 6) (asgS (b2 (gD 5) (lsV (lstV (consA (tupV (consA (gD 6) (consA (fun _ => some (.int 1)) nilA))) (consA (tupV (consA (gD 6) (consA (b1 (fun _ => some (.int 1)) oNeg) nilA))) nilA)))) oAdd) (setN 5))) (seqS (ownS 7 (lstV nilA)) (seqS (forS (itL (c1 (consA (c1 (consA (gD 5) nilA) oLen) (consA (fun _ => some (.int 3)) nilA)) F_law_rows_of)) (setN 8) (seqS (asgS (c1 (consA (lsV (lcV (itT (gD 8)) (setN 6) yesT (b2 (gD 5) (gD 6) oIx) [6])) nilA) oTupOf) (setN 9)) (ifS (tb (c1 (consA (tupV (consA (fun _ => some (.str "clash")) (consA (gD 0) (consA (gD 1) (consA (gD 2) nilA))))) (consA (gD 9) nilA)) F_holds)) (appS 7 (gD 9)) nextS))) (frzS 7 (retS (b2 (b2 (gD 4) (lsV (lstV nilA)) (oEqD false)) (b2 (gD 7) (lsV (lstV nilA)) (oEqD false)) (oEqD true))))))))))
def F_law_tellings_right : List D → Option D := runS 3 10 d_law_tellings_right
theorem body_law_tellings_right (w : WOk W) : BSs ⟨W, 12, defScope (topS 139), ["_law_many", "_law_rest", "_law_tellings", "_law_numbers_here", "_law_fits", "_law_steps", "_law_k", "_law_clashes", "_law_row", "_law_road"], [0, 1, 2, 3, 4, 5, 6, 7, 8, 9], [0, 1, 2, 3, 4, 5, 6, 7, 8, 9], ["_law_rows_of", "range", "len", "tuple", "holds"], none⟩ (defBody (topS 139)) d_law_tellings_right :=
  (scons (sdat (aLc 3 [("_law_row", 8)] [8, 0] [8] ["len"] rfl rfl rfl rfl (iL (bcall 0 (df_law_rows_of w) runS_len (Nat.le_of_ble_eq_true rfl) rfl (acons (bv 1 rfl (mm rfl)) (acons (bv 0 rfl (mm rfl)) anil)))) (by kernel_rfl) (by kernel_rfl) (gname 8 rfl (mm rfl)) (tsone (tcm bEq (blen0 0 (acons (bv 8 rfl (mm rfl)) anil) (fun _ => rfl) (fun _ => rfl) rfl) (bv 0 rfl (mm rfl)))) (bv 8 rfl (mm rfl)) (by decide))) (scons (sdat (aLc 4 [("_law_row", 8)] [8, 0, 1, 2] [8] ["holds"] rfl rfl rfl rfl (iL (bv 3 rfl (mm rfl))) (by kernel_rfl) (by kernel_rfl) (gname 8 rfl (mm rfl)) (tsone (tval (bcall 0 (df_holds w) runS_len (Nat.le_of_ble_eq_true rfl) rfl (acons (btup (acons bs (acons (bv 0 rfl (mm rfl)) (acons (bv 1 rfl (mm rfl)) (acons (bv 2 rfl (mm rfl)) anil))))) (acons (bv 8 rfl (mm rfl)) anil))))) (bv 8 rfl (mm rfl)) (by decide))) (scons (sset 5 rfl (mm rfl) (nle (nlst anil))) (scons (sfor (iR1 1 rfl (acons (blen0 2 (acons (bv 2 rfl (mm rfl)) anil) (fun _ => rfl) (fun _ => rfl) rfl) anil)) (gname 6 rfl (mm rfl)) (sone (sset 5 rfl (mm rfl) (bop bAdd (bv 5 rfl (mm rfl)) (nle (nlst (acons (btup (acons (bv 6 rfl (mm rfl)) (acons bi anil))) (acons (btup (acons (bv 6 rfl (mm rfl)) (acons (bneg bi) anil))) anil)))))))) (scons (sown (aN 7 rfl (mm rfl) (nlst anil))) (scons (sfor (iL (bcall 0 (df_law_rows_of w) runS_len (Nat.le_of_ble_eq_true rfl) rfl (acons (blen0 2 (acons (bv 5 rfl (mm rfl)) anil) (fun _ => rfl) (fun _ => rfl) rfl) (acons bi anil)))) (gname 8 rfl (mm rfl)) (scons (sset 9 rfl (mm rfl) (btup0 3 (acons (nle (nlc [("_law_k", 6)] [6, 5] [6] [] (iT (bv 8 rfl (mm rfl))) (by kernel_rfl) (by kernel_rfl) (gname 6 rfl (mm rfl)) tsnil (bix (bv 5 rfl (mm rfl)) (bv 6 rfl (mm rfl))) (by decide))) anil) (fun _ => rfl) (fun _ => rfl) rfl)) (sone (sif (tval (bcall 4 (df_holds w) runS_len (Nat.le_of_ble_eq_true rfl) rfl (acons (btup (acons bs (acons (bv 0 rfl (mm rfl)) (acons (bv 1 rfl (mm rfl)) (acons (bv 2 rfl (mm rfl)) anil))))) (acons (bv 9 rfl (mm rfl)) anil)))) (sone (sapp 7 rfl (mm rfl) (bv 9 rfl (mm rfl)))) snil)))) (sfrz 7 (sone (sret (bcm bNe (bcm bEq (bv 4 rfl (mm rfl)) (nle (nlst anil))) (bcm bEq (bv 7 rfl (mm rfl)) (nle (nlst anil)))))))))))))
theorem df_law_tellings_right (w : WOk W) : Df W 13 "_law_tellings_right" 3 F_law_tellings_right := df_of (N := ["_law_many", "_law_rest", "_law_tellings", "_law_numbers_here", "_law_fits", "_law_steps", "_law_k", "_law_clashes", "_law_row", "_law_road"]) (ps := ["_law_many", "_law_rest", "_law_tellings"]) w.bn (w.fns _ (mf 107 rfl)) (by decide +kernel) rfl rfl (by decide) (fun _ _ _ _ _ _ us hl => match us, hl with | [_, _, _], _ => rfl) (body_law_tellings_right w)
end Qd
end
section
set_option Elab.async false
set_option linter.all false
set_option autoImplicit false
set_option maxRecDepth 100000
set_option maxHeartbeats 4000000
namespace Qd
open PySem
open PySem.Spec
open PyProof.Rows
open L2
variable {W : Wd}
def d_law_lots_right : Gs := (seqS (asgS (tupV (consA (gD 0) (consA (gD 1) (consA (gD 2) (consA (gD 3) (consA (gD 4) nilA)))))) (setN 5)) (seqS (asgS (lsV (lcV (itL (c1 (consA (gD 0) (consA (fun _ => some (.int 4)) nilA)) F_law_rows_of)) (setN 8) (tb (c1 (consA (b2 (tupV (consA (fun _ => some (.str "together")) nilA)) (gD 5) oAdd) (consA (gD 8) nilA)) F_holds)) (gD 8) [8])) (setN 6)) (seqS (asgS (lsV (lcV (itL (c1 (consA (gD 0) nilA) F_law_sets_of)) (setN 9) (tb (c1 (consA (b2 (tupV (consA (fun _ => some (.str "not together")) nilA)) (gD 5) oAdd) (consA (gD 9) nilA)) F_holds)) (gD 9) [9])) (setN 7)) (retS (b2 (b2 (gD 6) (lsV (lstV nilA)) (oEqD false)) (b2 (gD 7) (lsV (lstV nilA)) (oEqD false)) (oEqD true))))))
def F_law_lots_right : List D → Option D := runS 5 10 d_law_lots_right
theorem body_law_lots_right (w : WOk W) : BSs ⟨W, 12, defScope (topS 140), ["_law_many", "_law_one", "_law_other", "_law_x", "_law_y", "_law_parts", "_law_chains", "_law_sets", "_law_row", "_law_some"], [0, 1, 2, 3, 4, 5, 6, 7], [0, 1, 2, 3, 4, 5, 6, 7], ["_law_rows_of", "_law_sets_of"], none⟩ (defBody (topS 140)) d_law_lots_right :=
  (scons (sset 5 rfl (mm rfl) (btup (acons (bv 0 rfl (mm rfl)) (acons (bv 1 rfl (mm rfl)) (acons (bv 2 rfl (mm rfl)) (acons (bv 3 rfl (mm rfl)) (acons (bv 4 rfl (mm rfl)) anil))))))) (scons (sdat (aLc 6 [("_law_row", 8)] [8, 5] [8] ["holds"] rfl rfl rfl rfl (iL (bcall 0 (df_law_rows_of w) runS_len (Nat.le_of_ble_eq_true rfl) rfl (acons (bv 0 rfl (mm rfl)) (acons bi anil)))) (by kernel_rfl) (by kernel_rfl) (gname 8 rfl (mm rfl)) (tsone (tval (bcall 0 (df_holds w) runS_len (Nat.le_of_ble_eq_true rfl) rfl (acons (bop bAdd (btup (acons bs anil)) (bv 5 rfl (mm rfl))) (acons (bv 8 rfl (mm rfl)) anil))))) (bv 8 rfl (mm rfl)) (by decide))) (scons (sdat (aLc 7 [("_law_some", 9)] [9, 5] [9] ["holds"] rfl rfl rfl rfl (iL (bcall 1 (df_law_sets_of w) runS_len (Nat.le_of_ble_eq_true rfl) rfl (acons (bv 0 rfl (mm rfl)) anil))) (by kernel_rfl) (by kernel_rfl) (gname 9 rfl (mm rfl)) (tsone (tval (bcall 0 (df_holds w) runS_len (Nat.le_of_ble_eq_true rfl) rfl (acons (bop bAdd (btup (acons bs anil)) (bv 5 rfl (mm rfl))) (acons (bv 9 rfl (mm rfl)) anil))))) (bv 9 rfl (mm rfl)) (by decide))) (sone (sret (bcm bNe (bcm bEq (bv 6 rfl (mm rfl)) (nle (nlst anil))) (bcm bEq (bv 7 rfl (mm rfl)) (nle (nlst anil)))))))))
theorem df_law_lots_right (w : WOk W) : Df W 13 "_law_lots_right" 5 F_law_lots_right := df_of (N := ["_law_many", "_law_one", "_law_other", "_law_x", "_law_y", "_law_parts", "_law_chains", "_law_sets", "_law_row", "_law_some"]) (ps := ["_law_many", "_law_one", "_law_other", "_law_x", "_law_y"]) w.bn (w.fns _ (mf 108 rfl)) (by decide +kernel) rfl rfl (by decide) (fun _ _ _ _ _ _ us hl => match us, hl with | [_, _, _, _, _], _ => rfl) (body_law_lots_right w)
def d_law_board_right : Gs := (seqS (ownS 3 (lstV nilA)) (seqS (forS (itR1 (consA (b2 (c1 (consA (gD 2) nilA) oLen) (fun _ => some (.int 1)) oAdd) nilA)) (setN 4) (seqS (asgS (c1 (consA (gD 0) (consA (gD 1) (consA (slV (gD 2) noP (someP (gD 4)) oSlT) nilA))) F_paper_seeps) (tupG 2 (consG (setN 5) (consG (setN 9) nilG)))) (seqS (appS 3 (gD 9)) (ifS (tb (b2 (b2 (gD 5) (fun _ => some (.int 0)) oIx) (fun _ => some (.str "shut")) (oEqD false))) (ownS 3 (ownCat 3 (lsV (lstV (consA (tupV (consA (gD 9) (consA (gD 9) nilA))) nilA))))) nextS)))) (seqS (asgS (b2 (c1 (consA (gD 0) (consA (gD 1) (consA (gD 2) nilA))) F_paper_seeps) (fun _ => some (.int 0)) oIx) (setN 5)) (seqS (ownS 6 (lstV nilA)) (frzS 3 (seqS (forS (itR1 (consA (b2 (c1 (consA (gD 2) nilA) oLen) (fun _ => some (.int 2)) oAdd) nilA)) (setN 4) (seqS (asgS (lsV (lcV (itL (gD 3)) (setN 9) (tb (c1 (consA (tupV (consA (fun _ => some (.str "through")) (consA (gD 0) (consA (gD 1) (consA (gD 2) (consA (gD 4) nilA)))))) (consA (gD 9) nilA)) F_holds)) (gD 9) [9])) (setN 8)) (ifS (tb (b2 (gD 8) (lsV (lstV nilA)) (oEqD true))) (appS 6 (gD 4)) nextS))) (seqS (asgS (c1 (consA (lsV (lcV (itL (gD 3)) (setN 9) yesT (c1 (consA (tupV (consA (fun _ => some (.str "shut")) (consA (gD 0) (consA (gD 1) (consA (gD 2) nilA))))) (consA (gD 9) nilA)) F_holds) [9])) nilA) oAny) (setN 7)) (seqS (ifS (tb (b2 (b2 (gD 5) (fun _ => some (.int 0)) oIx) (fun _ => some (.str "shut")) (oEqD false))) (frzS 6 (retS (andV (gD 7) (b2 (gD 6) (lsV (lstV nilA)) (oEqD false))))) nextS) (frzS 6 (retS (andV (notV (gD 7)) (b2 (gD 6) (lsV (lstV (consA (b2 (gD 5) (fun _ => some (.int 4)) oIx) nilA))) (oEqD false)))))))))))))
def F_law_board_right : List D → Option D := runS 3 10 d_law_board_right
theorem body_law_board_right (w : WOk W) : BSs ⟨W, 13, defScope (topS 141), ["_law_high", "_law_wide", "_law_row", "_law_told", "_law_moment", "_law_claim", "_law_taken", "_law_shut", "_law_papers", "_law_paper"], [0, 1, 2, 3, 4, 5, 6, 7, 8, 9], [0, 1, 2, 3, 4, 5, 6, 7, 8, 9], ["range", "len", "paper_seeps", "any"], none⟩ (defBody (topS 141)) d_law_board_right :=
  (scons (sown (aN 3 rfl (mm rfl) (nlst anil))) (scons (sfor (iR1 0 rfl (acons (bop bAdd (blen0 1 (acons (bv 2 rfl (mm rfl)) anil) (fun _ => rfl) (fun _ => rfl) rfl) bi) anil)) (gname 4 rfl (mm rfl)) (scons (sasg (bcall 2 (df_paper_seeps w) runS_len (Nat.le_of_ble_eq_true rfl) rfl (acons (bv 0 rfl (mm rfl)) (acons (bv 1 rfl (mm rfl)) (acons (bslT (bv 2 rfl (mm rfl)) pno (psome (bv 4 rfl (mm rfl)))) anil)))) (gtup (n := 2) (gcons (gname 5 rfl (mm rfl)) (gcons (gname 9 rfl (mm rfl)) gnil)))) (scons (sapp 3 rfl (mm rfl) (bv 9 rfl (mm rfl))) (sone (sif (tcm bEq (bix (bv 5 rfl (mm rfl)) bi) bs) (sone (sown (aN 3 rfl (mm rfl) (nOwnCat 3 rfl (mm rfl) (nle (nlst (acons (btup (acons (bv 9 rfl (mm rfl)) (acons (bv 9 rfl (mm rfl)) anil))) anil))))))) snil))))) (scons (sset 5 rfl (mm rfl) (bix (bcall 2 (df_paper_seeps w) runS_len (Nat.le_of_ble_eq_true rfl) rfl (acons (bv 0 rfl (mm rfl)) (acons (bv 1 rfl (mm rfl)) (acons (bv 2 rfl (mm rfl)) anil)))) bi)) (scons (sown (aN 6 rfl (mm rfl) (nlst anil))) (sfrz 3 (scons (sfor (iR1 0 rfl (acons (bop bAdd (blen0 1 (acons (bv 2 rfl (mm rfl)) anil) (fun _ => rfl) (fun _ => rfl) rfl) bi) anil)) (gname 4 rfl (mm rfl)) (scons (sdat (aLc 8 [("_law_paper", 9)] [9, 0, 1, 2, 4] [9] ["holds"] rfl rfl rfl rfl (iL (bv 3 rfl (mm rfl))) (by kernel_rfl) (by kernel_rfl) (gname 9 rfl (mm rfl)) (tsone (tval (bcall 0 (df_holds w) runS_len (Nat.le_of_ble_eq_true rfl) rfl (acons (btup (acons bs (acons (bv 0 rfl (mm rfl)) (acons (bv 1 rfl (mm rfl)) (acons (bv 2 rfl (mm rfl)) (acons (bv 4 rfl (mm rfl)) anil)))))) (acons (bv 9 rfl (mm rfl)) anil))))) (bv 9 rfl (mm rfl)) (by decide))) (sone (sif (tcm bNe (bv 8 rfl (mm rfl)) (nle (nlst anil))) (sone (sapp 6 rfl (mm rfl) (bv 4 rfl (mm rfl)))) snil)))) (scons (sset 7 rfl (mm rfl) (bany0 3 (acons (nle (nlc [("_law_paper", 9)] [9, 0, 1, 2] [9] ["holds"] (iL (bv 3 rfl (mm rfl))) (by kernel_rfl) (by kernel_rfl) (gname 9 rfl (mm rfl)) tsnil (bcall 0 (df_holds w) runS_len (Nat.le_of_ble_eq_true rfl) rfl (acons (btup (acons bs (acons (bv 0 rfl (mm rfl)) (acons (bv 1 rfl (mm rfl)) (acons (bv 2 rfl (mm rfl)) anil))))) (acons (bv 9 rfl (mm rfl)) anil))) (by decide))) anil) (fun _ => rfl) (fun _ => rfl) rfl)) (scons (sif (tcm bEq (bix (bv 5 rfl (mm rfl)) bi) bs) (sfrz 6 (sone (sret (band (bv 7 rfl (mm rfl)) (bone (bcm bEq (bv 6 rfl (mm rfl)) (nle (nlst anil)))))))) snil) (sfrz 6 (sone (sret (band (bnot (bv 7 rfl (mm rfl))) (bone (bcm bEq (bv 6 rfl (mm rfl)) (nle (nlst (acons (bix (bv 5 rfl (mm rfl)) bi) anil)))))))))))))))))
theorem df_law_board_right (w : WOk W) : Df W 14 "_law_board_right" 3 F_law_board_right := df_of (N := ["_law_high", "_law_wide", "_law_row", "_law_told", "_law_moment", "_law_claim", "_law_taken", "_law_shut", "_law_papers", "_law_paper"]) (ps := ["_law_high", "_law_wide", "_law_row"]) w.bn (w.fns _ (mf 109 rfl)) (by decide +kernel) rfl rfl (by decide) (fun _ _ _ _ _ _ us hl => match us, hl with | [_, _, _], _ => rfl) (body_law_board_right w)
def d_law : Gs := (seqS (asgS (c1 (consA (c1 (consA (gD 0) (consA (fun _ => some (.int 40)) nilA)) F_law_cell) (consA (fun _ => some (.int 24)) nilA)) F_law_numbers) (setN 1)) (seqS (asgS (b2 (fun _ => some (.int 2)) (b2 (b2 (gD 1) (fun _ => some (.int 0)) oIx) (fun _ => some (.int 3)) (oIC cMod fun i j => i % j)) oAdd) (setN 2)) (seqS (asgS (c1 (consA (gD 0) (consA (fun _ => some (.int 0)) (consA (gD 2) (consA (fun _ => some (.int 4)) nilA)))) F_law_joins) (setN 3)) (seqS (asgS (b2 (b2 (gD 1) (fun _ => some (.int 1)) oIx) (gD 2) (oIC cMod fun i j => i % j)) (setN 4)) (seqS (asgS (b2 (b2 (b2 (gD 4) (fun _ => some (.int 1)) oAdd) (b2 (b2 (gD 1) (fun _ => some (.int 2)) oIx) (b2 (gD 2) (fun _ => some (.int 1)) (oI fun i j => i - j)) (oIC cMod fun i j => i % j)) oAdd) (gD 2) (oIC cMod fun i j => i % j)) (setN 5)) (seqS (ifS (orT (notT (tb (c1 (consA (gD 2) (consA (gD 3) (consA (gD 4) (consA (gD 5) nilA)))) F_law_two_right))) (notT (tb (c1 (consA (gD 2) (consA (gD 3) (consA (gD 5) (consA (gD 4) nilA)))) F_law_two_right)))) (retS (fun _ => some (.bool false))) nextS) (seqS (asgS (b2 (lsV (lstV (consA (fun _ => some (.str "size")) (consA (fun _ => some (.str "rank")) (consA (fun _ => some (.str "told")) (consA (fun _ => some (.str "names")) nilA)))))) (b2 (b2 (gD 1) (fun _ => some (.int 3)) oIx) (fun _ => some (.int 4)) (oIC cMod fun i j => i % j)) oIx) (setN 6)) (seqS (asgS (lsV (lcV (itT (slV (gD 3) (someP (b2 (b2 (gD 1) (fun _ => some (.int 4)) oIx) (fun _ => some (.int 3)) (oIC cMod fun i j => i % j))) noP oSlT)) (tupG 2 (consG (setN 16) (consG (setN 17) nilG))) yesT (tupV (consA (fun _ => some (.str "join")) (consA (gD 16) (consA (gD 17) nilA)))) [16, 17])) (setN 7)) (seqS (asgS (b2 (b2 (c1 (consA (c1 (consA (gD 2) (consA (gD 6) (consA (fun _ => some (.str "none")) nilA))) F_law_new) (consA (gD 7) nilA)) F_law_run) (fun _ => some (.int 0)) oIx) (fun _ => some (.int 2)) oIx) (setN 8)) (seqS (forS (itL (lsV (lstV (consA (gD 8) (consA (c1 (consA (lsV (slV (gD 1) (someP (fun _ => some (.int 5))) noP oSlL)) (consA (gD 2) nilA)) F_law_forest) nilA))))) (setN 9) (ifS (notT (tb (c1 (consA (gD 6) (consA (gD 9) nilA)) F_law_shape_right))) (retS (fun _ => some (.bool false))) nextS)) (seqS (asgS (c1 (consA (gD 2) (consA (fun _ => some (.int 3)) nilA)) oMin2) (setN 10)) (seqS (asgS (lsV (slV (lsV (lstV (consA (fun _ => some (.int 11)) (consA (fun _ => some (.int 14)) (consA (fun _ => some (.int 17)) nilA))))) noP (someP (b2 (b2 (gD 1) (fun _ => some (.int 20)) oIx) (fun _ => some (.int 4)) (oIC cMod fun i j => i % j))) oSlL)) (setN 11)) (seqS (asgS (c1 (consA (lsV (lcV (itL (gD 11)) (setN 18) yesT (tupV (consA (b2 (b2 (gD 1) (gD 18) oIx) (gD 10) (oIC cMod fun i j => i % j)) (consA (b2 (b2 (gD 1) (b2 (gD 18) (fun _ => some (.int 1)) oAdd) oIx) (gD 10) (oIC cMod fun i j => i % j)) (consA (b2 (b2 (b2 (gD 1) (b2 (gD 18) (fun _ => some (.int 2)) oAdd) oIx) (fun _ => some (.int 7)) (oIC cMod fun i j => i % j)) (fun _ => some (.int 3)) (oI fun i j => i - j)) nilA)))) [18])) nilA) oTupOf) (setN 12)) (seqS (ifS (notT (tb (c1 (consA (gD 10) (consA (b2 (fun _ => some (.int 2)) (b2 (b2 (gD 1) (fun _ => some (.int 21)) oIx) (fun _ => some (.int 2)) (oIC cMod fun i j => i % j)) oAdd) (consA (gD 12) nilA))) F_law_tellings_right))) (retS (fun _ => some (.bool false))) nextS) (seqS (parS 16 17 (c1 (consA (gD 2) (consA (slV (gD 3) noP (someP (fun _ => some (.int 2))) oSlT) nilA)) F_law_lots_by) (c1 (consA (gD 2) (consA (slV (gD 3) (someP (fun _ => some (.int 2))) noP oSlT) nilA)) F_law_lots_by)) (seqS (ifS (notT (tb (c1 (consA (gD 2) (consA (c1 (consA (gD 16) nilA) oTupOf) (consA (c1 (consA (gD 17) nilA) oTupOf) (consA (gD 4) (consA (gD 5) nilA))))) F_law_lots_right))) (retS (fun _ => some (.bool false))) nextS) (seqS (asgS (b2 (fun _ => some (.int 1)) (b2 (b2 (gD 1) (fun _ => some (.int 22)) oIx) (fun _ => some (.int 3)) (oIC cMod fun i j => i % j)) oAdd) (setN 13)) (seqS (asgS (b2 (fun _ => some (.int 1)) (b2 (b2 (b2 (gD 1) (fun _ => some (.int 22)) oIx) (fun _ => some (.int 3)) (oIC cDiv fun i j => i / j)) (fun _ => some (.int 2)) (oIC cMod fun i j => i % j)) oAdd) (setN 14)) (seqS (asgS (c1 (consA (lsV (lcV (itL (c1 (consA (c1 (consA (gD 0) (consA (fun _ => some (.int 41)) nilA)) F_law_cell) (consA (b2 (b2 (gD 1) (fun _ => some (.int 23)) oIx) (fun _ => some (.int 8)) (oIC cMod fun i j => i % j)) nilA)) F_law_numbers)) (setN 19) yesT (b2 (gD 19) (b2 (gD 13) (gD 14) oMul) (oIC cMod fun i j => i % j)) [19])) nilA) oTupOf) (setN 15)) (retS (c1 (consA (gD 13) (consA (gD 14) (consA (gD 15) nilA))) F_law_board_right)))))))))))))))))))))
def F_law : List D → Option D := runS 1 20 d_law
theorem body_law (w : WOk W) : BSs ⟨W, 14, defScope (topS 142), ["_law_script", "_law_xs", "_law_many", "_law_row", "_law_x", "_law_y", "_law_join", "_law_deeds", "_law_came", "_law_ups", "_law_less", "_law_places", "_law_tellings", "_law_high", "_law_wide", "_law_spots", "_law_one", "_law_other", "_law_k", "_law_z"], [0, 1, 2, 3, 4, 5, 6, 7, 8, 9, 10, 11, 12, 13, 14, 15, 16, 17], [0, 1, 2, 3, 4, 5, 6, 7, 8, 9, 10, 11, 12, 13, 14, 15, 16, 17], ["_law_numbers", "_law_cell", "_law_joins", "_law_two_right", "_law_run", "_law_new", "_law_forest", "_law_shape_right", "min", "tuple", "_law_tellings_right", "_law_lots_by", "_law_lots_right", "_law_board_right"], none⟩ (defBody (topS 142)) d_law :=
  (scons (sset 1 rfl (mm rfl) (bcall 0 (df_law_numbers w) runS_len (Nat.le_of_ble_eq_true rfl) rfl (acons (bcall 1 (df_law_cell w) runS_len (Nat.le_of_ble_eq_true rfl) rfl (acons (bv 0 rfl (mm rfl)) (acons bi anil))) (acons bi anil)))) (scons (sset 2 rfl (mm rfl) (bop bAdd bi (bop bMod (bix (bv 1 rfl (mm rfl)) bi) bi))) (scons (sset 3 rfl (mm rfl) (bcall 2 (df_law_joins w) runS_len (Nat.le_of_ble_eq_true rfl) rfl (acons (bv 0 rfl (mm rfl)) (acons bi (acons (bv 2 rfl (mm rfl)) (acons bi anil)))))) (scons (sset 4 rfl (mm rfl) (bop bMod (bix (bv 1 rfl (mm rfl)) bi) (bv 2 rfl (mm rfl)))) (scons (sset 5 rfl (mm rfl) (bop bMod (bop bAdd (bop bAdd (bv 4 rfl (mm rfl)) bi) (bop bMod (bix (bv 1 rfl (mm rfl)) bi) (bop bSub (bv 2 rfl (mm rfl)) bi))) (bv 2 rfl (mm rfl)))) (scons (sif (tw (wor (tnot (tval (bcall 3 (df_law_two_right w) runS_len (Nat.le_of_ble_eq_true rfl) rfl (acons (bv 2 rfl (mm rfl)) (acons (bv 3 rfl (mm rfl)) (acons (bv 4 rfl (mm rfl)) (acons (bv 5 rfl (mm rfl)) anil))))))) (wor1 (tnot (tval (bcall 3 (df_law_two_right w) runS_len (Nat.le_of_ble_eq_true rfl) rfl (acons (bv 2 rfl (mm rfl)) (acons (bv 3 rfl (mm rfl)) (acons (bv 5 rfl (mm rfl)) (acons (bv 4 rfl (mm rfl)) anil)))))))))) (sone (sret bb)) snil) (scons (sset 6 rfl (mm rfl) (bix (nle (nlst (acons bs (acons bs (acons bs (acons bs anil)))))) (bop bMod (bix (bv 1 rfl (mm rfl)) bi) bi))) (scons (sdat (aLc 7 [("_law_one", 16), ("_law_other", 17)] [16, 17] [16, 17] [] rfl rfl rfl rfl (iT (bslT (bv 3 rfl (mm rfl)) (psome (bop bMod (bix (bv 1 rfl (mm rfl)) bi) bi)) pno)) (by kernel_rfl) (by kernel_rfl) (gtup (n := 2) (gcons (gname 16 rfl (mm rfl)) (gcons (gname 17 rfl (mm rfl)) gnil))) tsnil (btup (acons bs (acons (bv 16 rfl (mm rfl)) (acons (bv 17 rfl (mm rfl)) anil)))) (by decide))) (scons (sset 8 rfl (mm rfl) (bix (bix (bcall 4 (df_law_run w) runS_len (Nat.le_of_ble_eq_true rfl) rfl (acons (bcall 5 (df_law_new w) runS_len (Nat.le_of_ble_eq_true rfl) rfl (acons (bv 2 rfl (mm rfl)) (acons (bv 6 rfl (mm rfl)) (acons bs anil)))) (acons (bv 7 rfl (mm rfl)) anil))) bi) bi)) (scons (sfor (iL (nle (nlst (acons (bv 8 rfl (mm rfl)) (acons (bcall 6 (df_law_forest w) runS_len (Nat.le_of_ble_eq_true rfl) rfl (acons (nle (nslL (bv 1 rfl (mm rfl)) (psome bi) pno)) (acons (bv 2 rfl (mm rfl)) anil))) anil))))) (gname 9 rfl (mm rfl)) (sone (sif (tnot (tval (bcall 7 (df_law_shape_right w) runS_len (Nat.le_of_ble_eq_true rfl) rfl (acons (bv 6 rfl (mm rfl)) (acons (bv 9 rfl (mm rfl)) anil))))) (sone (sret bb)) snil))) (scons (sset 10 rfl (mm rfl) (bmin0 8 (acons (bv 2 rfl (mm rfl)) (acons bi anil)) (fun _ => rfl) (fun _ => rfl) rfl)) (scons (sset 11 rfl (mm rfl) (nle (nslL (nle (nlst (acons bi (acons bi (acons bi anil))))) pno (psome (bop bMod (bix (bv 1 rfl (mm rfl)) bi) bi))))) (scons (sset 12 rfl (mm rfl) (btup0 9 (acons (nle (nlc [("_law_k", 18)] [18, 10, 1] [18] [] (iL (bv 11 rfl (mm rfl))) (by kernel_rfl) (by kernel_rfl) (gname 18 rfl (mm rfl)) tsnil (btup (acons (bop bMod (bix (bv 1 rfl (mm rfl)) (bv 18 rfl (mm rfl))) (bv 10 rfl (mm rfl))) (acons (bop bMod (bix (bv 1 rfl (mm rfl)) (bop bAdd (bv 18 rfl (mm rfl)) bi)) (bv 10 rfl (mm rfl))) (acons (bop bSub (bop bMod (bix (bv 1 rfl (mm rfl)) (bop bAdd (bv 18 rfl (mm rfl)) bi)) bi) bi) anil)))) (by decide))) anil) (fun _ => rfl) (fun _ => rfl) rfl)) (scons (sif (tnot (tval (bcall 10 (df_law_tellings_right w) runS_len (Nat.le_of_ble_eq_true rfl) rfl (acons (bv 10 rfl (mm rfl)) (acons (bop bAdd bi (bop bMod (bix (bv 1 rfl (mm rfl)) bi) bi)) (acons (bv 12 rfl (mm rfl)) anil)))))) (sone (sret bb)) snil) (scons (spar 16 17 rfl rfl rfl rfl rfl rfl (by decide) rfl rfl rfl (fun _ => rfl) (by decide) (bcall 11 (df_law_lots_by w) runS_len (Nat.le_of_ble_eq_true rfl) rfl (acons (bv 2 rfl (mm rfl)) (acons (bslT (bv 3 rfl (mm rfl)) pno (psome bi)) anil))) (bcall 11 (df_law_lots_by w) runS_len (Nat.le_of_ble_eq_true rfl) rfl (acons (bv 2 rfl (mm rfl)) (acons (bslT (bv 3 rfl (mm rfl)) (psome bi) pno) anil))) (fun _ => rfl) (fun _ => rfl)) (scons (sif (tnot (tval (bcall 12 (df_law_lots_right w) runS_len (Nat.le_of_ble_eq_true rfl) rfl (acons (bv 2 rfl (mm rfl)) (acons (btup0 9 (acons (bv 16 rfl (mm rfl)) anil) (fun _ => rfl) (fun _ => rfl) rfl) (acons (btup0 9 (acons (bv 17 rfl (mm rfl)) anil) (fun _ => rfl) (fun _ => rfl) rfl) (acons (bv 4 rfl (mm rfl)) (acons (bv 5 rfl (mm rfl)) anil)))))))) (sone (sret bb)) snil) (scons (sset 13 rfl (mm rfl) (bop bAdd bi (bop bMod (bix (bv 1 rfl (mm rfl)) bi) bi))) (scons (sset 14 rfl (mm rfl) (bop bAdd bi (bop bMod (bop bDiv (bix (bv 1 rfl (mm rfl)) bi) bi) bi))) (scons (sset 15 rfl (mm rfl) (btup0 9 (acons (nle (nlc [("_law_z", 19)] [19, 13, 14] [19] [] (iL (bcall 0 (df_law_numbers w) runS_len (Nat.le_of_ble_eq_true rfl) rfl (acons (bcall 1 (df_law_cell w) runS_len (Nat.le_of_ble_eq_true rfl) rfl (acons (bv 0 rfl (mm rfl)) (acons bi anil))) (acons (bop bMod (bix (bv 1 rfl (mm rfl)) bi) bi) anil)))) (by kernel_rfl) (by kernel_rfl) (gname 19 rfl (mm rfl)) tsnil (bop bMod (bv 19 rfl (mm rfl)) (bop bMul (bv 13 rfl (mm rfl)) (bv 14 rfl (mm rfl)))) (by decide))) anil) (fun _ => rfl) (fun _ => rfl) rfl)) (sone (sret (bcall 13 (df_law_board_right w) runS_len (Nat.le_of_ble_eq_true rfl) rfl (acons (bv 13 rfl (mm rfl)) (acons (bv 14 rfl (mm rfl)) (acons (bv 15 rfl (mm rfl)) anil)))))))))))))))))))))))))
theorem df_law (w : WOk W) : Df W 15 "law" 1 F_law := df_of (N := ["_law_script", "_law_xs", "_law_many", "_law_row", "_law_x", "_law_y", "_law_join", "_law_deeds", "_law_came", "_law_ups", "_law_less", "_law_places", "_law_tellings", "_law_high", "_law_wide", "_law_spots", "_law_one", "_law_other", "_law_k", "_law_z"]) (ps := ["_law_script"]) w.bn (w.fns _ (mf 110 rfl)) (by decide +kernel) rfl rfl (by decide) (fun _ _ _ _ _ _ us hl => match us, hl with | [_], _ => rfl) (body_law w)
end Qd
end
section
set_option Elab.async false
set_option linter.all false
set_option autoImplicit false
set_option maxRecDepth 100000
set_option maxHeartbeats 1000000
/-! P0: plain rules for the denotations: loops, comprehensions, encodings. -/
namespace Qd
open PySem
open PySem.Spec

def eI (l : List Int) : List D := l.map .int
abbrev tI (l : List Int) : D := .tuple (eI l)
abbrev lI (l : List Int) : D := .list (eI l)
def eP (p : Int × Int) : D := .tuple [.int p.1, .int p.2]
abbrev tP (r : List (Int × Int)) : D := .tuple (r.map eP)
theorem eI_len (l : List Int) : (eI l).length = l.length := List.length_map ..
theorem bb_eq {a b : Bool} (h : a = b) : some (PyData.bool a) = some (PyData.bool b) := by rw [h]

/-! ### comprehensions -/
theorem lcD_eq {a : D → Nv → Option Nv} {ft : Nv → Option Bool} {fe : Nv → Option D} {ρ : Nv} (p : D → Bool) (g : D → D) : ∀ ds : List D, (∀ d ∈ ds, ∃ ρ1, a d ρ = some ρ1 ∧ ft ρ1 = some (p d) ∧ (p d = true → fe ρ1 = some (g d))) → lcD a ft fe ρ ds = some ((ds.filter p).map g)
  | [], _ => rfl
  | d :: ds, h => by
    obtain ⟨ρ1, h1, h2, h3⟩ := h d List.mem_cons_self
    have ih := lcD_eq p g ds fun d hd => h d (List.mem_cons_of_mem _ hd)
    show ((a d ρ).bind fun ρ1 => (ft ρ1).bind fun b => if b = true then (fe ρ1).bind fun y => (lcD a ft fe ρ ds).map (y :: ·) else lcD a ft fe ρ ds) = _
    rw [h1, Option.bind_some, h2, Option.bind_some]
    cases hp : p d with
    | true => rw [if_pos rfl, h3 hp, Option.bind_some, ih, List.filter_cons_of_pos hp]; rfl
    | false => rw [if_neg (by simp), ih, List.filter_cons_of_neg (by rw [hp]; simp)]
/-- no test -/
theorem lcD_map {a : D → Nv → Option Nv} {fe : Nv → Option D} {ρ : Nv} (g : D → D) (ds : List D) (h : ∀ d ∈ ds, ∃ ρ1, a d ρ = some ρ1 ∧ fe ρ1 = some (g d)) : lcD a yesT fe ρ ds = some (ds.map g) := by
  have z := lcD_eq (ft := yesT) (fun _ => true) g ds fun d hd => (h d hd).elim fun ρ1 h1 => ⟨ρ1, h1.1, rfl, fun _ => h1.2⟩
  rw [List.filter_eq_self.mpr (fun _ _ => rfl)] at z
  exact z
theorem lcV_eq {fi : Nv → Option (List D)} {a : D → Nv → Option Nv} {ft : Nv → Option Bool} {fe : Nv → Option D} {vs : List Nat} {ρ : Nv} {ds out : List D} (h1 : fi ρ = some ds) (h2 : ds.length ≤ lim) (h3 : lcD a ft fe (wipeN ρ vs) ds = some out) : lcV fi a ft fe vs ρ = some out := by
  unfold lcV
  rw [h1, Option.bind_some, if_pos h2, h3]
/-- all([..]), any([..]) of tests -/
theorem boolsD_of (p : D → Bool) (ds : List D) : boolsD (ds.map fun d => .bool (p d)) = some (ds.map p) := by
  have := boolsD_map (ds.map p)
  rwa [List.map_map] at this

/-! ### loops -/
theorem foS_cons {a : D → Nv → Option Nv} {b : Gs} {d : D} {ds : List D} {ρ ρ1 ρ2 : Nv} (h1 : a d ρ = some ρ1) (h2 : b ρ1 = some (.nx ρ2)) : foS a b (d :: ds) ρ = foS a b ds ρ2 := by
  show ((a d ρ).bind _) = _
  rw [h1, Option.bind_some, h2]
  rfl
theorem foS_rt {a : D → Nv → Option Nv} {b : Gs} {d : D} {ds : List D} {ρ ρ1 : Nv} {x : D} (h1 : a d ρ = some ρ1) (h2 : b ρ1 = some (.rt x)) : foS a b (d :: ds) ρ = some (.rt x) := by
  show ((a d ρ).bind _) = _
  rw [h1, Option.bind_some, h2]
  rfl
theorem forS_eq {fi : Nv → Option (List D)} {a : D → Nv → Option Nv} {b : Gs} {ρ : Nv} {ds : List D} (h : fi ρ = some ds) : forS fi a b ρ = foS a b ds ρ := by
  unfold forS
  rw [h]
  rfl
/-- a loop's law by an invariant of the names -/
theorem foS_inv {a : D → Nv → Option Nv} {b : Gs} (P : Nat → Nv → Prop) : ∀ (ds : List D) (k : Nat) (ρ : Nv), P k ρ → (∀ (j : Nat) (d : D) (ρ : Nv), k ≤ j → ds[j - k]? = some d → P j ρ → ∃ ρ1 ρ2, a d ρ = some ρ1 ∧ b ρ1 = some (.nx ρ2) ∧ P (j + 1) ρ2) → ∃ ρ', foS a b ds ρ = some (.nx ρ') ∧ P (k + ds.length) ρ'
  | [], k, ρ, h, _ => ⟨ρ, rfl, h⟩
  | d :: ds, k, ρ, h, st => by
    obtain ⟨ρ1, ρ2, h1, h2, h3⟩ := st k d ρ (Nat.le_refl k) (by rw [Nat.sub_self]; rfl) h
    obtain ⟨ρ', e, hp⟩ := foS_inv P ds (k + 1) ρ2 h3 fun j d' ρ' hj he hp => st j d' ρ' (by omega) (by
      have : j - k = (j - (k + 1)) + 1 := by omega
      rw [this, List.getElem?_cons_succ]
      exact he) hp
    exact ⟨ρ', by rw [foS_cons h1 h2]; exact e, by rw [List.length_cons]; have : k + (ds.length + 1) = k + 1 + ds.length := by omega
                                                   rw [this]; exact hp⟩
theorem seqS_nx {g h : Gs} {ρ ρ' : Nv} (e : g ρ = some (.nx ρ')) : seqS g h ρ = h ρ' := by
  unfold seqS
  rw [e]
  rfl
theorem seqS_rt {g h : Gs} {ρ : Nv} {d : D} (e : g ρ = some (.rt d)) : seqS g h ρ = some (.rt d) := by
  unfold seqS
  rw [e]
  rfl
theorem ifS_t {c : Nv → Option Bool} {g h : Gs} {ρ : Nv} (e : c ρ = some true) : ifS c g h ρ = g ρ := by
  unfold ifS
  rw [e]
  rfl
theorem ifS_f {c : Nv → Option Bool} {g h : Gs} {ρ : Nv} (e : c ρ = some false) : ifS c g h ρ = h ρ := by
  unfold ifS
  rw [e]
  rfl
theorem asg_eq {f : Nv → Option D} {i : Nat} {ρ : Nv} {d : D} (e : f ρ = some d) : asgS f (setN i) ρ = some (.nx (ρ.set i (some (.dat d)))) := by
  unfold asgS
  rw [e]
  rfl
theorem ret_eq {f : Nv → Option D} {ρ : Nv} {d : D} (e : f ρ = some d) : retS f ρ = some (.rt d) := by
  unfold retS
  rw [e]
  rfl
theorem tb_eq {f : Nv → Option D} {ρ : Nv} {b : Bool} (e : f ρ = some (.bool b)) : tb f ρ = some b := by
  unfold tb
  rw [e]
theorem runS_rt {n N : Nat} {g : Gs} {ds : List D} {d : D} (hl : ds.length = n) (e : g (startN n N ds) = some (.rt d)) : runS n N g ds = some d := by
  unfold runS
  rw [if_pos hl, e]
  rfl
theorem andV_eq {f g : Nv → Option D} {ρ : Nv} {a b : Bool} (h1 : f ρ = some (.bool a)) (h2 : a = true → g ρ = some (.bool b)) : andV f g ρ = some (.bool (a && b)) := by
  unfold andV
  rw [tb_eq h1]
  cases a with
  | true => exact h2 rfl
  | false => rfl
theorem orV_eq {f g : Nv → Option D} {ρ : Nv} {a b : Bool} (h1 : f ρ = some (.bool a)) (h2 : a = false → g ρ = some (.bool b)) : orV f g ρ = some (.bool (a || b)) := by
  unfold orV
  rw [tb_eq h1]
  cases a with
  | true => rfl
  | false => exact h2 rfl
theorem andT_eq {f g : Nv → Option Bool} {ρ : Nv} {a b : Bool} (h1 : f ρ = some a) (h2 : a = true → g ρ = some b) : andT f g ρ = some (a && b) := by
  unfold andT
  rw [h1]
  cases a with
  | true => exact h2 rfl
  | false => rfl
theorem orT_eq {f g : Nv → Option Bool} {ρ : Nv} {a b : Bool} (h1 : f ρ = some a) (h2 : a = false → g ρ = some b) : orT f g ρ = some (a || b) := by
  unfold orT
  rw [h1]
  cases a with
  | true => rfl
  | false => exact h2 rfl
theorem notT_eq {f : Nv → Option Bool} {ρ : Nv} {a : Bool} (h1 : f ρ = some a) : notT f ρ = some (!a) := by
  unfold notT
  rw [h1]
  rfl
theorem notV_eq {f : Nv → Option D} {ρ : Nv} {a : Bool} (h1 : f ρ = some (.bool a)) : notV f ρ = some (.bool (!a)) := by
  unfold notV
  rw [tb_eq h1]
  rfl
theorem b2_eq {f g : Nv → Option D} {o : D → D → Option D} {ρ : Nv} {x y : D} (h1 : f ρ = some x) (h2 : g ρ = some y) : b2 f g o ρ = o x y := by
  unfold b2
  rw [h1, Option.bind_some, h2, Option.bind_some]
theorem c1_eq {g : Nv → Option (List D)} {o : List D → Option D} {ρ : Nv} {ds : List D} (h : g ρ = some ds) : c1 g o ρ = o ds := by
  unfold c1
  rw [h]
  rfl
theorem consA_eq {f : Nv → Option D} {g : Nv → Option (List D)} {ρ : Nv} {x : D} {r : List D} (h1 : f ρ = some x) (h2 : g ρ = some r) : consA f g ρ = some (x :: r) := by
  unfold consA
  rw [h1, Option.bind_some, h2]
  rfl
theorem ch_eq {fa fb fc : Nv → Option D} {o o' : D → D → Option D} {ρ : Nv} {x y z : D} {a b : Bool} (h1 : fa ρ = some x) (h2 : fb ρ = some y) (h3 : o x y = some (.bool a)) (h4 : fc ρ = some z) (h5 : o' y z = some (.bool b)) : chV fa fb fc o o' ρ = some (.bool (a && b)) := by
  unfold chV
  rw [h1, Option.bind_some, h2, Option.bind_some, h3, Option.bind_some]
  cases a with
  | true =>
    show ((fc ρ).bind fun w => o' y w) = _
    rw [h4]
    exact h5
  | false => rfl
end Qd
end
section
set_option Elab.async false
set_option linter.all false
set_option autoImplicit false
set_option maxRecDepth 100000
set_option maxHeartbeats 1000000
/-! P1: what the defs about rows of joins answer, in plain words. -/
namespace Qd
open PySem
open PySem.Spec

/-! ### comprehensions over encoded lists -/
section
variable {α : Type} {enc : α → D} {fi : Nv → Option (List D)} {a : D → Nv → Option Nv} {ft : Nv → Option Bool} {fe : Nv → Option D} {vs : List Nat} {ρ : Nv}
theorem lcD_enc (p : α → Bool) (g : α → D) : ∀ l : List α, (∀ x ∈ l, ∃ ρ1, a (enc x) ρ = some ρ1 ∧ ft ρ1 = some (p x) ∧ (p x = true → fe ρ1 = some (g x))) → lcD a ft fe ρ (l.map enc) = some ((l.filter p).map g)
  | [], _ => rfl
  | d :: ds, h => by
    obtain ⟨ρ1, h1, h2, h3⟩ := h d List.mem_cons_self
    have ih := lcD_enc p g ds fun d hd => h d (List.mem_cons_of_mem _ hd)
    show ((a (enc d) ρ).bind fun ρ1 => (ft ρ1).bind fun b => if b = true then (fe ρ1).bind fun y => (lcD a ft fe ρ (ds.map enc)).map (y :: ·) else lcD a ft fe ρ (ds.map enc)) = _
    rw [h1, Option.bind_some, h2, Option.bind_some]
    cases hp : p d with
    | true => rw [if_pos rfl, h3 hp, Option.bind_some, ih, List.filter_cons_of_pos hp]; rfl
    | false => rw [if_neg (by simp), ih, List.filter_cons_of_neg (by rw [hp]; simp)]
theorem lcV_enc (p : α → Bool) (g : α → D) (l : List α) (h1 : fi ρ = some (l.map enc)) (h2 : l.length ≤ 1000) (h : ∀ x ∈ l, ∃ ρ1, a (enc x) (wipeN ρ vs) = some ρ1 ∧ ft ρ1 = some (p x) ∧ (p x = true → fe ρ1 = some (g x))) : lcV fi a ft fe vs ρ = some ((l.filter p).map g) :=
  lcV_eq h1 (by rw [List.length_map]; exact Nat.le_trans h2 (by decide)) (lcD_enc p g l h)
theorem lcV_map (g : α → D) (l : List α) (h1 : fi ρ = some (l.map enc)) (h2 : l.length ≤ 1000) (h : ∀ x ∈ l, ∃ ρ1, a (enc x) (wipeN ρ vs) = some ρ1 ∧ fe ρ1 = some (g x)) : lcV fi a yesT fe vs ρ = some (l.map g) := by
  have z := lcV_enc (ft := yesT) (fun _ => true) g l h1 h2 fun x hx => (h x hx).elim fun ρ1 z => ⟨ρ1, z.1, rfl, fun _ => z.2⟩
  rw [List.filter_eq_self.mpr (fun _ _ => rfl)] at z
  exact z
theorem ls_eq {f : Nv → Option (List D)} {ds : List D} (h : f ρ = some ds) : lsV f ρ = some (.list ds) := by
  unfold lsV
  rw [h]
  rfl
theorem all_enc (p : α → Bool) (l : List α) (h1 : fi ρ = some (l.map enc)) (h2 : l.length ≤ 1000) (h : ∀ x ∈ l, ∃ ρ1, a (enc x) (wipeN ρ vs) = some ρ1 ∧ fe ρ1 = some (.bool (p x))) : c1 (consA (lsV (lcV fi a yesT fe vs)) nilA) oAll ρ = some (.bool (l.all p)) := by
  rw [c1_eq (consA_eq (ls_eq (lcV_map (fun x => .bool (p x)) l h1 h2 h)) rfl)]
  have z : boolsD (l.map fun x => .bool (p x)) = some (l.map p) := by
    have := boolsD_map (l.map p)
    rwa [List.map_map] at this
  show (boolsD (l.map fun x => .bool (p x))).map _ = _
  rw [z]
  show some (PyData.bool ((l.map p).all id)) = _
  rw [List.all_map]
  rfl
theorem any_enc (p : α → Bool) (l : List α) (h1 : fi ρ = some (l.map enc)) (h2 : l.length ≤ 1000) (h : ∀ x ∈ l, ∃ ρ1, a (enc x) (wipeN ρ vs) = some ρ1 ∧ fe ρ1 = some (.bool (p x))) : c1 (consA (lsV (lcV fi a yesT fe vs)) nilA) oAny ρ = some (.bool (l.any p)) := by
  rw [c1_eq (consA_eq (ls_eq (lcV_map (fun x => .bool (p x)) l h1 h2 h)) rfl)]
  have z : boolsD (l.map fun x => .bool (p x)) = some (l.map p) := by
    have := boolsD_map (l.map p)
    rwa [List.map_map] at this
  show (boolsD (l.map fun x => .bool (p x))).map _ = _
  rw [z]
  show some (PyData.bool ((l.map p).any id)) = _
  rw [List.any_map]
  rfl
end
theorem itT_eq {f : Nv → Option D} {ρ : Nv} {ds : List D} (h : f ρ = some (.tuple ds)) (hl : ds.length ≤ 1000) : itT f ρ = some ds := by
  unfold itT
  rw [h]
  show (if ds.length ≤ lim then some ds else none) = _
  rw [if_pos (Nat.le_trans hl (by decide))]
theorem itL_eq {f : Nv → Option D} {ρ : Nv} {ds : List D} (h : f ρ = some (.list ds)) (hl : ds.length ≤ 1000) : itL f ρ = some ds := by
  unfold itL
  rw [h]
  show (if ds.length ≤ lim then some ds else none) = _
  rw [if_pos (Nat.le_trans hl (by decide))]
/-! ### operations -/
theorem eq_ii (i j : Int) : oEqD false (.int i) (.int j) = some (.bool (decide (i = j))) := by
  simp [oEqD, SeqAt.shaped, PyData.eqv, Bool.beq_eq_decide_eq, PyData.canLay0, PyData.depth]
theorem eq_bb (i j : Bool) : oEqD false (.bool i) (.bool j) = some (.bool (i == j)) := by
  cases i <;> cases j <;> rfl
theorem ix_nat (ds : List D) (k : Nat) (d : D) (h : ds[k]? = some d) : oIx (.tuple ds) (.int k) = some d := by
  have hl : k < ds.length := (List.getElem?_eq_some_iff.mp h).1
  show (L2.atI ds (k : Int)) = some d
  unfold L2.atI L2.ixN
  rw [if_pos (by omega), if_pos (by omega)]
  exact h
theorem flat_eI (l : List Int) : (eI l).all flatD = true := by
  induction l with
  | nil => rfl
  | cons i l ih => exact ih
theorem any_eI (i : Int) (l : List Int) : ((eI l).any fun z => PyData.eqv z (.int i)) = decide (i ∈ l) := by
  induction l with
  | nil => simp [eI]
  | cons j l ih =>
    have ih : ((l.map PyData.int).any fun z => PyData.eqv z (.int i)) = decide (i ∈ l) := ih
    show ((PyData.int j :: l.map PyData.int).any fun z => PyData.eqv z (.int i)) = _
    rw [List.any_cons, ih]
    simp only [PyData.eqv, List.mem_cons]
    by_cases h : i = j
    · simp [h]
    · have : ¬ j = i := fun e => h e.symm
      simp [h, this]
theorem in_I (neg : Bool) (i : Int) (l : List Int) : oIn neg (.int i) (tI l) = some (.bool (if neg = true then !decide (i ∈ l) else decide (i ∈ l))) := by
  unfold oIn
  have e : (flatD (.int i) && (eI l).all flatD) = true := by rw [flat_eI]; rfl
  have e2 := any_eI i l
  show (if (flatD (.int i) && (eI l).all flatD) = true then some (PyData.bool (if neg = true then !((eI l).any fun z => PyData.eqv z (.int i)) else (eI l).any fun z => PyData.eqv z (.int i))) else none) = _
  rw [if_pos e, e2]
/-! ### the defs -/
def inR (m i : Int) : Bool := decide (0 ≤ i) && decide (i < m)
theorem s_is_whole (i : Int) : F_is_whole [.int i] = some (.bool true) := by kernel_rfl
theorem s_is_thing_of (m i : Int) : F_is_thing_of [.int m, .int i] = some (.bool (inR m i)) :=
  runS_rt rfl (ret_eq (andV_eq (a := true) (s_is_whole i) fun _ => ch_eq rfl rfl rfl rfl rfl))
theorem s_are_wholes (l : List Int) (hl : l.length ≤ 1000) : F_are_wholes [tI l] = some (.bool true) := by
  refine runS_rt rfl (ret_eq (andV_eq (a := true) (b := true) rfl fun _ => ?_))
  rw [all_enc (enc := PyData.int) (fun _ => true) l (itT_eq rfl (by rw [List.length_map]; exact hl)) hl fun x _ => ⟨_, rfl, s_is_whole x⟩]
  simp
theorem s_is_many (m : Int) : F_is_many [.int m] = some (.bool (decide (1 ≤ m) && decide (m ≤ 40))) :=
  runS_rt rfl (ret_eq (andV_eq (a := true) (s_is_whole m) fun _ => ch_eq rfl rfl rfl rfl rfl))
theorem s_is_join (m : Int) (p : Int × Int) : F_is_join [.int m, eP p] = some (.bool (inR m p.1 && inR m p.2)) := by
  refine runS_rt rfl (ret_eq (andV_eq (a := true) rfl fun _ => andV_eq (a := true) (b := inR m p.1 && inR m p.2) rfl fun _ => ?_))
  rw [all_enc (enc := PyData.int) (fun i => inR m i) [p.1, p.2] rfl (by simp) fun x _ => ⟨_, rfl, s_is_thing_of m x⟩]
  simp
theorem s_are_joins (m : Int) (r : List (Int × Int)) (hl : r.length ≤ 1000) : F_are_joins [.int m, tP r] = some (.bool (r.all fun p => inR m p.1 && inR m p.2)) := by
  refine runS_rt rfl (ret_eq (andV_eq (a := true) rfl fun _ => ?_))
  exact all_enc (enc := eP) (fun p => inR m p.1 && inR m p.2) r (itT_eq rfl (by rw [List.length_map]; exact hl)) hl fun x _ => ⟨_, rfl, s_is_join m x⟩
theorem s_are_two (m x y : Int) : F_are_two [.int m, .int x, .int y] = some (.bool (inR m x && inR m y)) :=
  runS_rt rfl (ret_eq (andV_eq (s_is_thing_of m x) fun _ => s_is_thing_of m y))
/-- what a row of joins for two things must be -/
structure Rw (m : Int) (r : List (Int × Int)) (x y : Int) : Prop where
  m1 : 1 ≤ m
  m2 : m ≤ 40
  len : r.length ≤ 1000
  all : (r.all fun p => inR m p.1 && inR m p.2) = true
  x : inR m x = true
  y : inR m y = true
theorem s_row_of_two {m : Int} {r : List (Int × Int)} {x y : Int} (h : Rw m r x y) : F_is_row_of_two [.tuple [.int m, tP r, .int x, .int y]] = some (.bool true) := by
  refine runS_rt rfl ((seqS_nx rfl).trans (ret_eq (andV_eq (a := true) (b := true) ?_ fun _ => andV_eq (a := true) (b := true) ?_ fun _ => ?_)))
  · exact (s_is_many m).trans (by rw [decide_eq_true h.m1, decide_eq_true h.m2]; rfl)
  · exact (s_are_joins m r h.len).trans (by rw [h.all])
  · exact (s_are_two m x y).trans (by rw [h.x, h.y]; rfl)
def endB (p : Int × Int) (h : Int) : Option Int := if h = p.1 then some p.2 else if h = p.2 then some p.1 else none
def endD : Option Int → D
  | some i => .int i
  | none => .none
theorem s_other_end (p : Int × Int) (h : Int) : F_other_end [eP p, .int h] = some (endD (endB p h)) := by
  have e1 : (tb (b2 (gD 1) (b2 (gD 0) (fun _ => some (.int 0)) oIx) (oEqD false))) (startN 2 2 [eP p, .int h]) = some (decide (h = p.1)) := tb_eq (eq_ii h p.1)
  have e2 : (tb (b2 (gD 1) (b2 (gD 0) (fun _ => some (.int 1)) oIx) (oEqD false))) (startN 2 2 [eP p, .int h]) = some (decide (h = p.2)) := tb_eq (eq_ii h p.2)
  unfold endB
  by_cases h1 : h = p.1
  · rw [if_pos h1]
    rw [decide_eq_true h1] at e1
    exact runS_rt rfl (seqS_rt ((ifS_t e1).trans rfl))
  · rw [if_neg h1]
    rw [decide_eq_false h1] at e1
    by_cases h2 : h = p.2
    · rw [if_pos h2]
      rw [decide_eq_true h2] at e2
      exact runS_rt rfl ((seqS_nx ((ifS_f e1).trans rfl)).trans (seqS_rt ((ifS_t e2).trans rfl)))
    · rw [if_neg h2]
      rw [decide_eq_false h2] at e2
      exact runS_rt rfl ((seqS_nx ((ifS_f e1).trans rfl)).trans ((seqS_nx ((ifS_f e2).trans rfl)).trans rfl))
theorem seqS_for {a : D → Nv → Option Nv} {b h : Gs} {d : D} {ds : List D} {ρ ρ1 ρ2 : Nv} (h1 : a d ρ = some ρ1) (h2 : b ρ1 = some (.nx ρ2)) : seqS (foS a b (d :: ds)) h ρ = seqS (foS a b ds) h ρ2 := by
  unfold seqS
  rw [foS_cons h1 h2]
/-- does the road go from here to the end? -/
def goesB (r : List (Int × Int)) : List Int → Int → Int → Bool
  | [], h, e => decide (h = e)
  | n :: ns, h, e => if 0 ≤ n ∧ n < r.length then (match r[n.toNat]? with
    | some p => (match endB p h with
      | some k => goesB r ns k e
      | none => false)
    | none => false) else false
theorem s_road_goes (r : List (Int × Int)) (road : List Int) (x y : Int) (hl : road.length ≤ 1000) : F_road_goes [tP r, tI road, .int x, .int y] = some (.bool (goesB r road x y)) := by
  refine runS_rt rfl ((seqS_nx (asg_eq (d := .int x) rfl)).trans ?_)
  -- the loop, from any place
  have key : ∀ (ns : List Int) (h : Int) (n5 : Option En), seqS (foS (setN 5) (seqS (ifS (orT (notT (tb (chV (fun _ => some (.int 0)) (gD 5) (c1 (consA (gD 0) nilA) oLen) (oB fun i j => decide (i ≤ j)) (oB fun i j => decide (i < j))))) (tb (b2 (c1 (consA (b2 (gD 0) (gD 5) oIx) (consA (gD 4) nilA)) F_other_end) (fun _ => some .none) (oIsN false)))) (retS (fun _ => some (.bool false))) nextS) (asgS (c1 (consA (b2 (gD 0) (gD 5) oIx) (consA (gD 4) nilA)) F_other_end) (setN 4))) (eI ns)) (retS (b2 (gD 4) (gD 3) (oEqD false)))
      [some (.dat (tP r)), some (.dat (tI road)), some (.dat (.int x)), some (.dat (.int y)), some (.dat (.int h)), n5] = some (.rt (.bool (goesB r ns h y))) := by
    intro ns
    induction ns with
    | nil =>
      intro h n5
      refine (seqS_nx rfl).trans ?_
      exact ret_eq (eq_ii h y)
    | cons n ns ih =>
      intro h n5
      have ec : (chV (fun _ => some (.int 0)) (gD 5) (c1 (consA (gD 0) nilA) oLen) (oB fun i j => decide (i ≤ j)) (oB fun i j => decide (i < j))) [some (.dat (tP r)), some (.dat (tI road)), some (.dat (.int x)), some (.dat (.int y)), some (.dat (.int h)), some (.dat (.int n))] = some (.bool (decide (0 ≤ n) && decide (n < (r.map eP).length))) := ch_eq rfl rfl rfl rfl rfl
      rw [List.length_map] at ec
      show seqS (foS _ _ (PyData.int n :: eI ns)) _ _ = _
      unfold goesB
      by_cases hn : 0 ≤ n ∧ n < r.length
      · rw [decide_eq_true hn.1, decide_eq_true (show n < (r.length : Int) from hn.2)] at ec
        have hlt : n.toNat < r.length := by omega
        have hp : r[n.toNat]? = some r[n.toNat] := List.getElem?_eq_getElem hlt
        rw [if_pos hn, hp]
        have e1 : oIx (tP r) (.int n) = some (eP r[n.toNat]) := by
          have z := ix_nat (r.map eP) n.toNat (eP r[n.toNat]) (by rw [List.getElem?_map, hp]; rfl)
          rwa [Int.toNat_of_nonneg hn.1] at z
        have e2 : (c1 (consA (b2 (gD 0) (gD 5) oIx) (consA (gD 4) nilA)) F_other_end) [some (.dat (tP r)), some (.dat (tI road)), some (.dat (.int x)), some (.dat (.int y)), some (.dat (.int h)), some (.dat (.int n))] = some (endD (endB r[n.toNat] h)) :=
          (c1_eq (consA_eq (e1 : (b2 (gD 0) (gD 5) oIx) [some (.dat (tP r)), some (.dat (tI road)), some (.dat (.int x)), some (.dat (.int y)), some (.dat (.int h)), some (.dat (.int n))] = _) rfl)).trans (s_other_end _ _)
        show _ = some (Out.rt (.bool (match endB r[n.toNat] h with
          | some k => goesB r ns k y
          | none => false)))
        cases he : endB r[n.toNat] h with
        | none =>
          rw [he] at e2
          have e3 := orT_eq (b := true) (notT_eq (tb_eq ec)) fun _ => tb_eq ((b2_eq (g := fun _ => some .none) (o := oIsN false) e2 rfl).trans (rfl : oIsN false .none .none = some (.bool true)))
          exact seqS_rt (foS_rt rfl (seqS_rt ((ifS_t e3).trans rfl)))
        | some k =>
          rw [he] at e2
          have e3 := orT_eq (b := false) (notT_eq (tb_eq ec)) fun _ => tb_eq ((b2_eq (g := fun _ => some .none) (o := oIsN false) e2 rfl).trans (rfl : oIsN false (.int k) .none = some (.bool false)))
          have st : (seqS (ifS (orT (notT (tb (chV (fun _ => some (.int 0)) (gD 5) (c1 (consA (gD 0) nilA) oLen) (oB fun i j => decide (i ≤ j)) (oB fun i j => decide (i < j))))) (tb (b2 (c1 (consA (b2 (gD 0) (gD 5) oIx) (consA (gD 4) nilA)) F_other_end) (fun _ => some .none) (oIsN false)))) (retS (fun _ => some (.bool false))) nextS) (asgS (c1 (consA (b2 (gD 0) (gD 5) oIx) (consA (gD 4) nilA)) F_other_end) (setN 4)))
              [some (.dat (tP r)), some (.dat (tI road)), some (.dat (.int x)), some (.dat (.int y)), some (.dat (.int h)), some (.dat (.int n))] = some (.nx [some (.dat (tP r)), some (.dat (tI road)), some (.dat (.int x)), some (.dat (.int y)), some (.dat (.int k)), some (.dat (.int n))]) :=
            (seqS_nx ((ifS_f e3).trans rfl)).trans (asg_eq e2)
          exact (seqS_for rfl st).trans (ih k (some (.dat (.int n))))
      · have hf : (decide (0 ≤ n) && decide (n < (r.length : Int))) = false := by
          by_cases h0 : 0 ≤ n
          · rw [decide_eq_false (fun z => hn ⟨h0, z⟩), Bool.and_false]
          · rw [decide_eq_false h0, Bool.false_and]
        rw [hf] at ec
        rw [if_neg hn]
        have e3 := orT_eq (b := true) (g := tb (b2 (c1 (consA (b2 (gD 0) (gD 5) oIx) (consA (gD 4) nilA)) F_other_end) (fun _ => some .none) (oIsN false))) (notT_eq (tb_eq ec)) fun z => by cases z
        exact seqS_rt (foS_rt rfl (seqS_rt ((ifS_t e3).trans rfl)))
  have k0 := key road x none
  unfold seqS at k0 ⊢
  rw [forS_eq (itT_eq (ds := eI road) rfl (by rw [eI_len]; exact hl))]
  exact k0
end Qd
end
section
set_option Elab.async false
set_option linter.all false
set_option autoImplicit false
set_option maxRecDepth 100000
set_option maxHeartbeats 1000000
/-! P2: takers of claims about rows of joins; all rows, all sets. -/
namespace Qd
open PySem
open PySem.Spec

theorem notT_f {f : Nv → Option Bool} {ρ : Nv} (h : f ρ = some true) : notT f ρ = some false := by
  unfold notT
  rw [h]
  rfl
theorem notT_t {f : Nv → Option Bool} {ρ : Nv} (h : f ρ = some false) : notT f ρ = some true := by
  unfold notT
  rw [h]
  rfl

def shB (s : List Int) (r : List (Int × Int)) : Bool := r.all fun p => decide (p.1 ∈ s) == decide (p.2 ∈ s)
theorem s_is_shut (s : List Int) (r : List (Int × Int)) (hl : r.length ≤ 1000) : F_is_shut [tI s, tP r] = some (.bool (shB s r)) := by
  refine runS_rt rfl (ret_eq ?_)
  refine all_enc (enc := eP) (fun p => decide (p.1 ∈ s) == decide (p.2 ∈ s)) r (itT_eq rfl (by rw [List.length_map]; exact hl)) hl fun p _ => ⟨_, rfl, ?_⟩
  exact (b2_eq (in_I false p.1 s) (in_I false p.2 s)).trans (eq_bb _ _)
theorem s_parts_two (s : List Int) (x y : Int) : F_parts_two [tI s, .int x, .int y] = some (.bool (decide (x ∈ s) && !decide (y ∈ s))) :=
  runS_rt rfl (ret_eq (andV_eq (in_I false x s) fun _ => in_I true y s))
def apB (r : List (Int × Int)) (x y : Int) (s : List Int) : Bool := (decide (x ∈ s) && !decide (y ∈ s)) && shB s r
def SetOk (m : Int) (s : List Int) : Prop := F_is_set_of [.int m, tI s] = some (.bool true)
theorem s_is_apart {m : Int} (r : List (Int × Int)) (x y : Int) (s : List Int) (hs : SetOk m s) (hl : r.length ≤ 1000) : F_is_apart [.int m, tP r, .int x, .int y, tI s] = some (.bool (apB r x y s)) :=
  runS_rt rfl (ret_eq (andV_eq (a := true) (b := apB r x y s) hs fun _ => andV_eq (s_parts_two s x y) fun _ => s_is_shut s r hl))
theorem s_takes_one {m : Int} {r : List (Int × Int)} {x y : Int} (h : Rw m r x y) (road : List Int) (hl : road.length ≤ 1000) : F_takes_one [.tuple [.int m, tP r, .int x, .int y], tI road] = some (.bool (goesB r road x y)) :=
  runS_rt rfl (ret_eq (andV_eq (a := true) (b := goesB r road x y) (s_row_of_two h) fun _ => andV_eq (a := true) (b := goesB r road x y) (s_are_wholes road hl) fun _ => s_road_goes r road x y hl))
theorem s_takes_apart {m : Int} {r : List (Int × Int)} {x y : Int} (h : Rw m r x y) (s : List Int) (hs : SetOk m s) : F_takes_apart [.tuple [.int m, tP r, .int x, .int y], tI s] = some (.bool (apB r x y s)) := by
  refine runS_rt rfl ((seqS_nx rfl).trans ?_)
  exact ret_eq (andV_eq (a := true) (b := apB r x y s) (s_row_of_two h) fun _ => s_is_apart r x y s hs h.len)
theorem cut_take (ds : List D) (k : Int) (h0 : 0 ≤ k) (h1 : k ≤ ds.length) : cutD ds none (some k) = ds.take k.toNat := by
  have e : HT.sIx ds.length ds.length (some k) = min k.toNat ds.length := by
    show (if k < 0 then (k + ds.length).toNat else min k.toNat ds.length) = _
    rw [if_neg (by omega)]
  unfold cutD
  rw [e]
  show (ds.drop 0).take (min k.toNat ds.length - 0) = _
  rw [List.drop_zero, Nat.sub_zero, Nat.min_eq_left (by omega)]
theorem sl_take {f : Nv → Option D} {g : Nv → Option D} {ρ : Nv} {r : List (Int × Int)} {k : Int} (h1 : f ρ = some (tP r)) (h2 : g ρ = some (.int k)) (h0 : 0 ≤ k) (hk : k ≤ r.length) (hl : r.length ≤ 1000) : slV f noP (someP g) oSlT ρ = some (tP (r.take k.toNat)) := by
  have e : someP g ρ = some (some k) := by
    unfold someP
    rw [h2]
    rfl
  unfold slV
  rw [h1, Option.bind_some]
  show ((noP ρ).bind fun l => (someP g ρ).bind fun h => oSlT (tP r) l h) = _
  rw [e]
  show oSlT (tP r) none (some k) = _
  have z := cut_take (r.map eP) k h0 (by rw [List.length_map]; exact hk)
  show some (PyData.tuple (cutD (r.map eP) none (some k))) = _
  rw [z, ← List.map_take]
def firstB (r : List (Int × Int)) (x y k : Int) (road s : List Int) : Bool := if 1 ≤ k ∧ k ≤ r.length then goesB (r.take k.toNat) road x y && apB (r.take (k - 1).toNat) x y s else false
theorem s_takes_first {m : Int} {r : List (Int × Int)} {x y : Int} (h : Rw m r x y) (k : Int) (road s : List Int) (hs : SetOk m s) (hl : road.length ≤ 1000) : F_takes_first [.tuple [.int m, tP r, .int x, .int y, .int k], .tuple [tI road, tI s]] = some (.bool (firstB r x y k road s)) := by
  refine runS_rt rfl ((seqS_nx rfl).trans ?_)
  have ec : ∀ ρ : Nv, gD 6 ρ = some (.int k) → gD 3 ρ = some (tP r) → (chV (fun _ => some (.int 1)) (gD 6) (c1 (consA (gD 3) nilA) oLen) (oB fun i j => decide (i ≤ j)) (oB fun i j => decide (i ≤ j))) ρ = some (.bool (decide (1 ≤ k) && decide (k ≤ ((r.map eP).length : Int)))) := fun ρ h1 h2 => ch_eq rfl h1 rfl ((c1_eq (consA_eq h2 rfl)).trans (rfl : oLen [tP r] = some (.int ((r.map eP).length : Nat)))) rfl
  unfold firstB
  by_cases hk : 1 ≤ k ∧ k ≤ r.length
  · rw [if_pos hk]
    have e1 := ec [some (.dat (.tuple [.int m, tP r, .int x, .int y, .int k])), some (.dat (.tuple [tI road, tI s])), some (.dat (.int m)), some (.dat (tP r)), some (.dat (.int x)), some (.dat (.int y)), some (.dat (.int k))] rfl rfl
    rw [List.length_map, decide_eq_true hk.1, decide_eq_true hk.2] at e1
    refine (seqS_nx ((ifS_f (orT_eq (a := false) (b := false) (notT_f (tb_eq (s_row_of_two h))) fun _ => orT_eq (a := false) (b := false) (notT_f (tb_eq (s_is_whole k))) fun _ => notT_f (tb_eq e1))).trans rfl)).trans ?_
    refine (seqS_nx ((ifS_f (orT_eq (a := false) (b := false) (notT_f (tb_eq ?_)) fun _ => orT_eq (a := false) (b := false) (tb_eq ?_) fun _ => notT_f (tb_eq (s_are_wholes road hl)))).trans rfl)).trans ?_
    · rfl
    · rfl
    · refine ret_eq (andV_eq ?_ fun _ => ?_)
      · refine (c1_eq (consA_eq (sl_take (k := k) rfl rfl (by omega) hk.2 h.len) rfl)).trans ?_
        exact s_road_goes _ road x y hl
      · refine (c1_eq (consA_eq rfl (consA_eq (sl_take (k := k - 1) rfl rfl (by omega) (by omega) h.len) rfl))).trans ?_
        exact s_is_apart _ x y s hs (by rw [List.length_take]; have := h.len; omega)
  · rw [if_neg hk]
    have e1 := ec [some (.dat (.tuple [.int m, tP r, .int x, .int y, .int k])), some (.dat (.tuple [tI road, tI s])), some (.dat (.int m)), some (.dat (tP r)), some (.dat (.int x)), some (.dat (.int y)), some (.dat (.int k))] rfl rfl
    have hf : (decide (1 ≤ k) && decide (k ≤ ((r.map eP).length : Int))) = false := by
      rw [List.length_map]
      by_cases h0 : 1 ≤ k
      · rw [decide_eq_false (fun z => hk ⟨h0, z⟩), Bool.and_false]
      · rw [decide_eq_false h0, Bool.false_and]
    rw [hf] at e1
    exact seqS_rt ((ifS_t (orT_eq (a := false) (b := true) (notT_f (tb_eq (s_row_of_two h))) fun _ => orT_eq (a := false) (b := true) (notT_f (tb_eq (s_is_whole k))) fun _ => notT_t (tb_eq e1))).trans rfl)

/-! ### holds -/
theorem of_rt (x : Option D) : ((x.map Out.rt).bind outD) = x := by cases x <;> rfl
theorem ix0 (x : D) (xs : List D) : oIx (.tuple (x :: xs)) (.int 0) = some x := by
  have := ix_nat (x :: xs) 0 x rfl
  exact this
theorem sl1 (x : D) (xs : List D) : oSlT (.tuple (x :: xs)) (some 1) none = some (.tuple xs) := by
  show some (PyData.tuple (cutD (x :: xs) (some 1) none)) = _
  have e : HT.sIx (x :: xs).length 0 (some 1) = 1 := by
    show (if (1 : Int) < 0 then ((1 : Int) + ((x :: xs).length : Int)).toNat else min (1 : Int).toNat (x :: xs).length) = 1
    rw [if_neg (by decide), List.length_cons]
    show min 1 (xs.length + 1) = 1
    omega
  have e2 : HT.sIx (x :: xs).length (x :: xs).length none = xs.length + 1 := rfl
  unfold cutD
  rw [e, e2]
  show some (PyData.tuple ((xs).take (xs.length + 1 - 1))) = _
  rw [Nat.add_sub_cancel, List.take_length]
theorem eq_nil (x : D) (xs : List D) (h : SeqAt.shaped (.tuple (x :: xs)) = true) : oEqD false (.tuple (x :: xs)) (.tuple []) = some (.bool false) := by
  unfold oEqD
  rw [h]
  rfl
theorem h_any {w : Str} {as : List D} {p : D} {e : KEnt} (hf : (ktab.find? fun q => decide (q.word = w)) = some e) (hm : ((as.length : Nat) : Int) = e.m) (hs : SeqAt.shaped (.tuple (.str w :: as)) = true) : F_holds [.tuple (.str w :: as), p] = e.F [.tuple as, p] := by
  have e0 : (b2 (gD 0) (fun _ => some (.int 0)) oIx) [some (.dat (.tuple (.str w :: as))), some (.dat p), none, none] = some (.str w) := ix0 _ _
  have hany : (ktab.any fun q => decide (q.word = w)) = true := List.any_eq_true.mpr ⟨e, List.mem_of_find?_eq_some hf, List.find?_some (p := fun q : KEnt => decide (q.word = w)) hf⟩
  have e1 : (kNotIn ktab (b2 (gD 0) (fun _ => some (.int 0)) oIx)) [some (.dat (.tuple (.str w :: as))), some (.dat p), none, none] = some (.bool false) := by
    unfold kNotIn
    rw [e0]
    show (if (ktab.any fun q => decide (q.word = w)) = true then some (PyData.bool false) else none) = _
    rw [if_pos hany]
  have e2 : (b1 (b2 (gD 0) (fun _ => some (.int 0)) oIx) (oIsi "str")) [some (.dat (.tuple (.str w :: as))), some (.dat p), none, none] = some (.bool true) := by
    unfold b1
    rw [e0]
    show oIsi "str" (.str w) = _
    kernel_rfl
  have e3 : (b1 (gD 0) (oIsi "tuple")) [some (.dat (.tuple (.str w :: as))), some (.dat p), none, none] = some (.bool true) := by kernel_rfl
  have e4 : (b2 (gD 0) (tupV nilA) (oEqD false)) [some (.dat (.tuple (.str w :: as))), some (.dat p), none, none] = some (.bool false) := eq_nil (.str w) as hs
  have et := orT_eq (notT_f (tb_eq e3)) fun _ => orT_eq (tb_eq e4) fun _ => orT_eq (notT_f (tb_eq e2)) fun _ => tb_eq e1
  have em : (b2 (c1 (consA (gD 0) nilA) oLen) (b2 (gD 3) (fun _ => some (.int 1)) oAdd) (oEqD false)) [some (.dat (.tuple (.str w :: as))), some (.dat p), none, some (.dat (.int e.m))] = some (.bool true) := by
    have z := eq_ii ((((PyData.str w) :: as).length : Nat) : Int) (e.m + 1)
    rw [List.length_cons, ← hm] at z
    rw [← hm]
    refine Eq.trans z ?_
    rw [decide_eq_true (by omega)]
  have ea : (consA (slV (gD 0) (someP (fun _ => some (.int 1))) noP oSlT) (consA (gD 1) nilA)) [some (.dat (.tuple (.str w :: as))), some (.dat p), none, some (.dat (.int e.m))] = some [.tuple as, p] := consA_eq (sl1 (.str w) as) rfl
  have eh : holdsT ktab 2 3 (b2 (gD 0) (fun _ => some (.int 0)) oIx) (b2 (c1 (consA (gD 0) nilA) oLen) (b2 (gD 3) (fun _ => some (.int 1)) oAdd) (oEqD false)) (consA (slV (gD 0) (someP (fun _ => some (.int 1))) noP oSlT) (consA (gD 1) nilA)) [some (.dat (.tuple (.str w :: as))), some (.dat p), none, none] = (e.F [.tuple as, p]).map Out.rt := by
    unfold holdsT
    rw [e0]
    show ((ktab.find? fun q => decide (q.word = w)).bind _) = _
    rw [hf, Option.bind_some]
    show ((andV (b2 (c1 (consA (gD 0) nilA) oLen) (b2 (gD 3) (fun _ => some (.int 1)) oAdd) (oEqD false)) (c1 (consA (slV (gD 0) (someP (fun _ => some (.int 1))) noP oSlT) (consA (gD 1) nilA)) e.F) [some (.dat (.tuple (.str w :: as))), some (.dat p), none, some (.dat (.int e.m))]).map Out.rt) = _
    unfold andV
    rw [tb_eq em, Option.bind_some, if_pos rfl, c1_eq ea]
  show ((seqS _ _ [some (.dat (.tuple (.str w :: as))), some (.dat p), none, none]).bind outD) = _
  rw [seqS_nx ((ifS_f et).trans rfl)]
  exact (congrArg (fun o => Option.bind o outD) eh).trans (of_rt _)
/-! ### all sets, all rows -/
def setsN : Nat → List (List Int)
  | 0 => [[]]
  | n + 1 => setsN n ++ (setsN n).map fun s => s ++ [(n : Int)]
def longer (n : Nat) (l : List (List Int)) : List (List Int) := l.flatMap fun r => (List.range n).map fun (k : Nat) => r ++ [(k : Int)]
def rowsN (n : Nat) : Nat → List (List Int)
  | 0 => [[]]
  | t + 1 => rowsN n t ++ lastN n (t + 1)
where lastN (n : Nat) : Nat → List (List Int)
  | 0 => [[]]
  | t + 1 => longer n (lastN n t)
abbrev lTI (l : List (List Int)) : D := .list (l.map fun s => tI s)
theorem sets2 : F_law_sets_of [.int 2] = some (lTI (setsN 2)) := by kernel_rfl
theorem sets3 : F_law_sets_of [.int 3] = some (lTI (setsN 3)) := by kernel_rfl
theorem sets4 : F_law_sets_of [.int 4] = some (lTI (setsN 4)) := by kernel_rfl
theorem rows0 : F_law_rows_of [.int 0, .int 3] = some (lTI (rowsN 0 3)) := by kernel_rfl
theorem rows1 : F_law_rows_of [.int 1, .int 3] = some (lTI (rowsN 1 3)) := by kernel_rfl
theorem rows2 : F_law_rows_of [.int 2, .int 3] = some (lTI (rowsN 2 3)) := by kernel_rfl
theorem rows3 : F_law_rows_of [.int 3, .int 3] = some (lTI (rowsN 3 3)) := by kernel_rfl
theorem rows4 : F_law_rows_of [.int 4, .int 3] = some (lTI (rowsN 4 3)) := by kernel_rfl
theorem rows6 : F_law_rows_of [.int 6, .int 3] = some (lTI (rowsN 6 3)) := by kernel_rfl
theorem rows24 : F_law_rows_of [.int 2, .int 4] = some (lTI (rowsN 2 4)) := by kernel_rfl
theorem rows34 : F_law_rows_of [.int 3, .int 4] = some (lTI (rowsN 3 4)) := by kernel_rfl
theorem rows44 : F_law_rows_of [.int 4, .int 4] = some (lTI (rowsN 4 4)) := by kernel_rfl
theorem rows22 : F_law_rows_of [.int 2, .int 2] = some (lTI (rowsN 2 2)) := by kernel_rfl
theorem rows33 : F_law_rows_of [.int 3, .int 2] = some (lTI (rowsN 3 2)) := by kernel_rfl
end Qd
end
section
set_option Elab.async false
set_option linter.all false
set_option autoImplicit false
set_option maxRecDepth 100000
set_option maxHeartbeats 1000000
/-! P3: what the law asks of a row of joins and two things, in plain words. -/
namespace Qd
open PySem
open PySem.Spec

/-! ### shapes -/
def LayK (k : Nat) (d : D) : Prop := d.canLay0 = true ∧ d.depth ≤ k
theorem LayK.mono {j k : Nat} {d : D} (h : LayK j d) (l : j ≤ k) : LayK k d := ⟨h.1, Nat.le_trans h.2 l⟩
theorem lay_all {k : Nat} : ∀ ds : List D, (∀ d ∈ ds, LayK k d) → PyData.canLayAll0 ds = true ∧ PyData.depthAll ds ≤ k
  | [], _ => by simp [PyData.canLayAll0, PyData.depthAll]
  | d :: ds, h => by
    obtain ⟨h1, h2⟩ := lay_all ds fun d hd => h d (List.mem_cons_of_mem _ hd)
    have h3 := h d List.mem_cons_self
    constructor
    · simp [PyData.canLayAll0, h1, h3.1]
    · have := h3.2
      simp [PyData.depthAll]
      omega
theorem lay_int (k : Nat) (i : Int) : LayK k (.int i) := ⟨by simp [PyData.canLay0], by simp [PyData.depth]⟩
theorem lay_str (k : Nat) (x : Str) (h : PyData.strOk x = true) : LayK k (.str x) := ⟨by simpa [PyData.canLay0] using h, by simp [PyData.depth]⟩
theorem lay_tup {k : Nat} {ds : List D} (h : ∀ d ∈ ds, LayK k d) : LayK (k + 1) (.tuple ds) := by
  obtain ⟨h1, h2⟩ := lay_all ds h
  exact ⟨by simpa [PyData.canLay0] using h1, by simp [PyData.depth]; omega⟩
theorem lay_lst {k : Nat} {ds : List D} (h : ∀ d ∈ ds, LayK k d) : LayK (k + 1) (.list ds) := by
  obtain ⟨h1, h2⟩ := lay_all ds h
  exact ⟨by simpa [PyData.canLay0] using h1, by simp [PyData.depth]; omega⟩
theorem lay_eI (k : Nat) (l : List Int) : ∀ d ∈ eI l, LayK k d := fun d hd => by
  obtain ⟨i, _, rfl⟩ := List.mem_map.mp hd
  exact lay_int k i
theorem lay_tI (l : List Int) : LayK 1 (tI l) := lay_tup (lay_eI 0 l)
theorem lay_tP (r : List (Int × Int)) : LayK 2 (tP r) := lay_tup fun d hd => by
  obtain ⟨p, _, rfl⟩ := List.mem_map.mp hd
  exact lay_tup fun d hd => by
    rcases List.mem_cons.mp hd with rfl | hd
    · exact lay_int 0 _
    · rw [List.mem_singleton.mp hd]
      exact lay_int 0 _
theorem LayK.sh {k : Nat} {d : D} (h : LayK k d) (hk : k ≤ 64) : SeqAt.shaped d = true := by
  unfold SeqAt.shaped
  rw [Bool.and_eq_true]
  exact ⟨h.1, decide_eq_true (Nat.le_trans h.2 hk)⟩
theorem eq_lnil (neg : Bool) (ds : List D) (h : SeqAt.shaped (.list ds) = true) : oEqD neg (.list ds) (.list []) = some (.bool (if neg = true then !ds.isEmpty else ds.isEmpty)) := by
  unfold oEqD
  rw [h]
  cases ds with
  | nil => cases neg <;> rfl
  | cons d ds =>
    have e : PyData.eqv (.list (d :: ds)) (.list []) = false := by simp [PyData.eqv, PyData.eqvAll]
    show (if (true && true) = true then some (PyData.bool (if neg = true then !PyData.eqv (.list (d :: ds)) (.list []) else PyData.eqv (.list (d :: ds)) (.list []))) else none) = _
    rw [e]
    cases neg <;> rfl
theorem ne_bb (i j : Bool) : oEqD true (.bool i) (.bool j) = some (.bool (i != j)) := by
  cases i <;> cases j <;> rfl

/-! ### the two enumerations -/
theorem rows_of (n : Nat) (h : n ≤ 4) : F_law_rows_of [.int (n : Int), .int 3] = some (lTI (rowsN n 3)) := by
  match n, h with
  | 0, _ => exact rows0
  | 1, _ => exact rows1
  | 2, _ => exact rows2
  | 3, _ => exact rows3
  | 4, _ => exact rows4
  | n + 5, h => omega
theorem rows_len (n : Nat) (h : n ≤ 4) : (rowsN n 3).length ≤ 1000 ∧ ∀ l ∈ rowsN n 3, l.length ≤ 1000 := by
  match n, h with
  | 0, _ => decide
  | 1, _ => decide
  | 2, _ => decide +kernel
  | 3, _ => decide +kernel
  | 4, _ => decide +kernel
  | n + 5, h => omega
theorem sets_of (m : Nat) (h : m = 2 ∨ m = 3 ∨ m = 4) : F_law_sets_of [.int (m : Int)] = some (lTI (setsN m)) := by
  rcases h with rfl | rfl | rfl
  · exact sets2
  · exact sets3
  · exact sets4
theorem ok_sets2 : (setsN 2).map (fun s => F_is_set_of [.int 2, tI s]) = (setsN 2).map fun _ => some (.bool true) := by kernel_rfl
theorem ok_sets3 : (setsN 3).map (fun s => F_is_set_of [.int 3, tI s]) = (setsN 3).map fun _ => some (.bool true) := by kernel_rfl
theorem ok_sets4 : (setsN 4).map (fun s => F_is_set_of [.int 4, tI s]) = (setsN 4).map fun _ => some (.bool true) := by kernel_rfl
theorem map_at {α β : Type} {f g : α → β} : ∀ {l : List α}, l.map f = l.map g → ∀ x ∈ l, f x = g x
  | [], _, x, h => by cases h
  | a :: l, e, x, h => by
    rw [List.map_cons, List.map_cons] at e
    injection e with e1 e2
    rcases List.mem_cons.mp h with rfl | h
    · exact e1
    · exact map_at e2 x h
theorem ok_sets (m : Nat) (h : m = 2 ∨ m = 3 ∨ m = 4) : ∀ s ∈ setsN m, SetOk m s := by
  rcases h with rfl | rfl | rfl
  · exact map_at ok_sets2
  · exact map_at ok_sets3
  · exact map_at ok_sets4
theorem sets_len (m : Nat) (h : m = 2 ∨ m = 3 ∨ m = 4) : (setsN m).length ≤ 1000 := by
  rcases h with rfl | rfl | rfl <;> decide

def kOne : KEnt := ⟨"one", 4, F_takes_one⟩
def kApart : KEnt := ⟨"apart", 4, F_takes_apart⟩
def kFirst : KEnt := ⟨"first", 5, F_takes_first⟩
theorem f_one : (ktab.find? fun q => decide (q.word = ("one" : Str))) = some kOne := by kernel_rfl
theorem f_apart : (ktab.find? fun q => decide (q.word = ("apart" : Str))) = some kApart := by kernel_rfl
theorem f_first : (ktab.find? fun q => decide (q.word = ("first" : Str))) = some kFirst := by kernel_rfl
/-! ### the law's def -/
abbrev gIn (k : Nat) : Gs := ifS (andT (tb (inO true (gD 8) 7)) (tb (c1 (consA (lsV (lcV (itL (gD 5)) (setN 11) yesT (c1 (consA (gD 9) (consA (tupV (consA (gD 11) (consA (gD 10) nilA))) nilA)) F_holds) [11])) nilA) oAny))) (appS 7 (gD 8)) nextS
section
variable {m : Nat} {r : List (Int × Int)} {x y : Int}
def accB (r : List (Int × Int)) (x y : Int) (roads : List (List Int)) (k : Int) (s : List Int) : Bool := roads.any fun road => firstB r x y k road s
abbrev nv (m : Nat) (r : List (Int × Int)) (x y : Int) (roads sets : List (List Int)) (mo : List Int) (k : Int) (n10 : Option En) : Nv :=
  [some (.dat (.int m)), some (.dat (tP r)), some (.dat (.int x)), some (.dat (.int y)), some (.dat (.tuple [.int m, tP r, .int x, .int y])), some (.dat (lTI roads)), some (.dat (lTI sets)), some (.own (eI mo)), some (.dat (.int k)), some (.dat (.tuple [.str "first", .int m, tP r, .int x, .int y, .int k])), n10, none]
theorem in_own (neg : Bool) (mo : List Int) (k : Int) : oIn neg (.int k) (.list (eI mo)) = some (.bool (if neg = true then !decide (k ∈ mo) else decide (k ∈ mo))) := in_I neg k mo
theorem inner (h : Rw m r x y) (roads sets : List (List Int)) (hro : roads.length ≤ 1000 ∧ ∀ l ∈ roads, l.length ≤ 1000) (k : Int) : ∀ (ss : List (List Int)) (mo : List Int) (n10 : Option En), (∀ s ∈ ss, SetOk m s) → mo.length ≤ 100 →
    ∃ n10', foS (setN 10) (gIn 0) (ss.map fun s => tI s) (nv m r x y roads sets mo k n10) = some (.nx (nv m r x y roads sets (if k ∈ mo then mo else if ss.any (accB r x y roads k) = true then mo ++ [k] else mo) k n10'))
  | [], mo, n10, _, _ => by
    have e : (if k ∈ mo then mo else if ([] : List (List Int)).any (accB r x y roads k) = true then mo ++ [k] else mo) = mo := by
      by_cases hk : k ∈ mo
      · rw [if_pos hk]
      · rw [if_neg hk, if_neg (by simp)]
    rw [e]
    exact ⟨n10, rfl⟩
  | s :: ss, mo, n10, hs, hmo => by
    have e1 : (tb (inO true (gD 8) 7)) (nv m r x y roads sets mo k (some (.dat (tI s)))) = some (!decide (k ∈ mo)) := tb_eq (in_own true mo k)
    have e2 : (c1 (consA (lsV (lcV (itL (gD 5)) (setN 11) yesT (c1 (consA (gD 9) (consA (tupV (consA (gD 11) (consA (gD 10) nilA))) nilA)) F_holds) [11])) nilA) oAny) (nv m r x y roads sets mo k (some (.dat (tI s)))) = some (.bool (accB r x y roads k s)) := by
      refine any_enc (enc := fun s => tI s) (fun road => firstB r x y k road s) roads (itL_eq rfl (by rw [List.length_map]; exact hro.1)) hro.1 fun road hr => ⟨_, rfl, ?_⟩
      refine (h_any (as := [.int m, tP r, .int x, .int y, .int k]) (p := .tuple [tI road, tI s]) f_first rfl ?_ : F_holds [.tuple (.str "first" :: [.int m, tP r, .int x, .int y, .int k]), .tuple [tI road, tI s]] = _).trans (s_takes_first h k road s (hs s List.mem_cons_self) (hro.2 road hr))
      refine LayK.sh (k := 3) (lay_tup fun d hd => ?_) (by decide)
      simp only [List.mem_cons, List.not_mem_nil, or_false] at hd
      rcases hd with rfl | rfl | rfl | rfl | rfl | rfl
      · exact lay_str 2 _ (by kernel_rfl)
      · exact lay_int 2 _
      · exact lay_tP r
      · exact lay_int 2 _
      · exact lay_int 2 _
      · exact lay_int 2 _
    by_cases hk : k ∈ mo
    · rw [if_pos hk]
      rw [decide_eq_true hk] at e1
      have st : gIn 0 (nv m r x y roads sets mo k (some (.dat (tI s)))) = some (.nx (nv m r x y roads sets mo k (some (.dat (tI s))))) := (ifS_f (andT_eq (b := false) e1 fun z => by cases z)).trans rfl
      obtain ⟨n', e⟩ := inner h roads sets hro k ss mo (some (.dat (tI s))) (fun s hs' => hs s (List.mem_cons_of_mem _ hs')) hmo
      rw [if_pos hk] at e
      exact ⟨n', (foS_cons rfl st).trans e⟩
    · rw [if_neg hk]
      rw [decide_eq_false hk] at e1
      have e3 := andT_eq e1 fun _ => tb_eq e2
      cases ha : accB r x y roads k s with
      | false =>
        rw [ha] at e3
        have st : gIn 0 (nv m r x y roads sets mo k (some (.dat (tI s)))) = some (.nx (nv m r x y roads sets mo k (some (.dat (tI s))))) := (ifS_f e3).trans rfl
        obtain ⟨n', e⟩ := inner h roads sets hro k ss mo (some (.dat (tI s))) (fun s hs' => hs s (List.mem_cons_of_mem _ hs')) hmo
        rw [if_neg hk] at e
        refine ⟨n', (foS_cons rfl st).trans ?_⟩
        rw [e, List.any_cons, ha, Bool.false_or]
      | true =>
        rw [ha] at e3
        have ap : appS 7 (gD 8) (nv m r x y roads sets mo k (some (.dat (tI s)))) = some (.nx (nv m r x y roads sets (mo ++ [k]) k (some (.dat (tI s))))) := by
          show (if (eI mo).length ≤ lim then some (Out.nx ((nv m r x y roads sets mo k (some (.dat (tI s)))).set 7 (some (.own (eI mo ++ [.int k]))))) else none) = _
          rw [if_pos (by rw [eI_len]; exact Nat.le_trans hmo (by decide))]
          have : eI mo ++ [.int k] = eI (mo ++ [k]) := by unfold eI; rw [List.map_append]; rfl
          rw [this]
          rfl
        have st : gIn 0 (nv m r x y roads sets mo k (some (.dat (tI s)))) = some (.nx (nv m r x y roads sets (mo ++ [k]) k (some (.dat (tI s))))) := (ifS_t e3).trans ap
        -- from here on k is there
        have rest : ∀ (ss : List (List Int)) (n10 : Option En), (∀ s ∈ ss, SetOk m s) → ∃ n10', foS (setN 10) (gIn 0) (ss.map fun s => tI s) (nv m r x y roads sets (mo ++ [k]) k n10) = some (.nx (nv m r x y roads sets (mo ++ [k]) k n10')) := by
          intro ss
          induction ss with
          | nil => exact fun n10 _ => ⟨n10, rfl⟩
          | cons s2 ss ih =>
            intro n10 hs2
            have e4 : (tb (inO true (gD 8) 7)) (nv m r x y roads sets (mo ++ [k]) k (some (.dat (tI s2)))) = some (!decide (k ∈ mo ++ [k])) := tb_eq (in_own true (mo ++ [k]) k)
            rw [decide_eq_true (by simp)] at e4
            have st2 : gIn 0 (nv m r x y roads sets (mo ++ [k]) k (some (.dat (tI s2)))) = some (.nx (nv m r x y roads sets (mo ++ [k]) k (some (.dat (tI s2))))) := (ifS_f (andT_eq (b := false) e4 fun z => by cases z)).trans rfl
            obtain ⟨n', e⟩ := ih (some (.dat (tI s2))) fun s hs' => hs2 s (List.mem_cons_of_mem _ hs')
            exact ⟨n', (foS_cons rfl st2).trans e⟩
        obtain ⟨n', e⟩ := rest ss (some (.dat (tI s))) fun s hs' => hs s (List.mem_cons_of_mem _ hs')
        refine ⟨n', (foS_cons rfl st).trans ?_⟩
        rw [e, List.any_cons, ha, Bool.true_or, if_pos rfl]
end
end Qd
end
section
set_option Elab.async false
set_option linter.all false
set_option autoImplicit false
set_option maxRecDepth 100000
set_option maxHeartbeats 1000000
/-! P4: two_right in plain words. -/
namespace Qd
open PySem
open PySem.Spec
section
variable {m : Nat} {r : List (Int × Int)} {x y : Int}
abbrev nw (m : Nat) (r : List (Int × Int)) (x y : Int) (roads sets : List (List Int)) (mo : List Int) (n8 n9 n10 : Option En) : Nv :=
  [some (.dat (.int m)), some (.dat (tP r)), some (.dat (.int x)), some (.dat (.int y)), some (.dat (.tuple [.int m, tP r, .int x, .int y])), some (.dat (lTI roads)), some (.dat (lTI sets)), some (.own (eI mo)), n8, n9, n10, none]
abbrev gOut : Gs := seqS (asgS (tupV (consA (fun _ => some (.str "first")) (consA (gD 0) (consA (gD 1) (consA (gD 2) (consA (gD 3) (consA (gD 8) nilA))))))) (setN 9)) (forS (itL (c1 (consA (gD 0) nilA) F_law_sets_of)) (setN 10) (gIn 0))
theorem outer (hm : m = 2 ∨ m = 3 ∨ m = 4) (h : Rw m r x y) (roads sets : List (List Int)) (hro : roads.length ≤ 1000 ∧ ∀ l ∈ roads, l.length ≤ 1000) : ∀ (ks mo : List Int) (n8 n9 n10 : Option En), (∀ k ∈ ks, k ∉ mo) → ks.Nodup → mo.length + ks.length ≤ 100 →
    ∃ n8' n9' n10', foS (setN 8) gOut (eI ks) (nw m r x y roads sets mo n8 n9 n10) = some (.nx (nw m r x y roads sets (mo ++ ks.filter fun k => (setsN m).any (accB r x y roads k)) n8' n9' n10'))
  | [], mo, n8, n9, n10, _, _, _ => ⟨n8, n9, n10, by rw [List.filter_nil, List.append_nil]; rfl⟩
  | k :: ks, mo, n8, n9, n10, hk, hnd, hl => by
    rw [List.length_cons] at hl
    obtain ⟨hk1, hnd⟩ := List.nodup_cons.mp hnd
    obtain ⟨n', e⟩ := inner h roads sets hro k (setsN m) mo n10 (ok_sets m hm) (by omega)
    rw [if_neg (hk k List.mem_cons_self)] at e
    have e0 : (itL (c1 (consA (gD 0) nilA) F_law_sets_of)) (nv m r x y roads sets mo k n10) = some ((setsN m).map fun s => tI s) := itL_eq (sets_of m hm) (by rw [List.length_map]; exact sets_len m hm)
    have st : gOut (nw m r x y roads sets mo (some (.dat (.int k))) n9 n10) = some (.nx (nv m r x y roads sets (if (setsN m).any (accB r x y roads k) = true then mo ++ [k] else mo) k n')) := by
      refine (seqS_nx rfl).trans ?_
      exact (forS_eq e0).trans e
    by_cases ha : (setsN m).any (accB r x y roads k) = true
    · rw [if_pos ha] at st
      obtain ⟨a, b, c, e2⟩ := outer hm h roads sets hro ks (mo ++ [k]) _ _ n' (fun j hj z => by
        rcases List.mem_append.mp z with z | z
        · exact hk j (List.mem_cons_of_mem _ hj) z
        · rw [List.mem_singleton.mp z] at hj
          exact hk1 hj) hnd (by rw [List.length_append]; simp; omega)
      refine ⟨a, b, c, (foS_cons rfl st).trans (e2.trans ?_)⟩
      rw [List.filter_cons_of_pos (by exact ha), List.append_assoc]
      rfl
    · rw [if_neg ha] at st
      obtain ⟨a, b, c, e2⟩ := outer hm h roads sets hro ks mo _ _ n' (fun j hj => hk j (List.mem_cons_of_mem _ hj)) hnd (by omega)
      refine ⟨a, b, c, (foS_cons rfl st).trans (e2.trans ?_)⟩
      rw [List.filter_cons_of_neg (by exact ha)]
def roadsB (r : List (Int × Int)) (x y : Int) : List (List Int) := (rowsN r.length 3).filter fun road => goesB r road x y
def setsB (m : Nat) (r : List (Int × Int)) (x y : Int) : List (List Int) := (setsN m).filter fun s => apB r x y s
def ksN (n : Nat) : List Int := (List.range n).map fun (i : Nat) => ((i : Int))
def momB (m : Nat) (r : List (Int × Int)) (x y : Int) : List Int := (ksN (r.length + 2)).filter fun k => (setsN m).any (accB r x y (roadsB r x y) k)
def twoB (m : Nat) (r : List (Int × Int)) (x y : Int) : Bool := if ((roadsB r x y).isEmpty != !(setsB m r x y).isEmpty) = true then false else decide (((momB m r x y).length : Int) = if (roadsB r x y).isEmpty = true then 0 else 1)
theorem rgD_ks (n : Nat) : rgD 0 (n : Int) = eI (ksN n) := by
  unfold rgD eI ksN
  rw [List.map_map]
  have : ((n : Int) - 0).toNat = n := by omega
  rw [this]
  refine List.map_congr_left fun i _ => ?_
  show PyData.int (0 + (i : Nat)) = PyData.int (i : Nat)
  rw [Int.zero_add]
abbrev nq (m : Nat) (r : List (Int × Int)) (x y : Int) (n7 n8 n9 n10 : Option En) : Nv := [some (.dat (.int m)), some (.dat (tP r)), some (.dat (.int x)), some (.dat (.int y)), some (.dat (.tuple [.int m, tP r, .int x, .int y])), some (.dat (lTI (roadsB r x y))), some (.dat (lTI (setsB m r x y))), n7, n8, n9, n10, none]
theorem two_right_eq (hm : m = 2 ∨ m = 3 ∨ m = 4) (hr : r.length ≤ 4) (h : Rw m r x y) : F_law_two_right [.int m, tP r, .int x, .int y] = some (.bool (twoB m r x y)) := by
  have hlen : (tP r : D) = .tuple (r.map eP) := rfl
  have hrl := rows_len r.length hr
  have ss := sets_len m hm
  -- the roads
  have e1 : (lcV (itL (c1 (consA (c1 (consA (gD 1) nilA) oLen) (consA (fun _ => some (.int 3)) nilA)) F_law_rows_of)) (setN 11) (tb (c1 (consA (b2 (tupV (consA (fun _ => some (.str "one")) nilA)) (gD 4) oAdd) (consA (gD 11) nilA)) F_holds)) (gD 11) [11])
      [some (.dat (.int m)), some (.dat (tP r)), some (.dat (.int x)), some (.dat (.int y)), some (.dat (.tuple [.int m, tP r, .int x, .int y])), none, none, none, none, none, none, none] = some ((roadsB r x y).map fun s => tI s) := by
    refine lcV_enc (enc := fun s => tI s) (fun road => goesB r road x y) (fun s => tI s) (rowsN r.length 3) (itL_eq ?_ (by rw [List.length_map]; exact hrl.1)) hrl.1 fun road hro => ⟨_, rfl, ?_, fun _ => rfl⟩
    · have z := rows_of r.length hr
      have : (((r.map eP).length : Nat) : Int) = (r.length : Int) := by rw [List.length_map]
      rw [← this] at z
      exact z
    · refine tb_eq ((h_any (as := [.int m, tP r, .int x, .int y]) (p := tI road) f_one rfl ?_ : F_holds [.tuple (.str "one" :: [.int m, tP r, .int x, .int y]), tI road] = _).trans (s_takes_one h road (hrl.2 road hro)))
      refine LayK.sh (k := 3) (lay_tup fun d hd => ?_) (by decide)
      simp only [List.mem_cons, List.not_mem_nil, or_false] at hd
      rcases hd with rfl | rfl | rfl | rfl | rfl
      · exact lay_str 2 _ (by kernel_rfl)
      · exact lay_int 2 _
      · exact lay_tP r
      · exact lay_int 2 _
      · exact lay_int 2 _
  have e2 : (lcV (itL (c1 (consA (gD 0) nilA) F_law_sets_of)) (setN 10) (tb (c1 (consA (b2 (tupV (consA (fun _ => some (.str "apart")) nilA)) (gD 4) oAdd) (consA (gD 10) nilA)) F_holds)) (gD 10) [10])
      [some (.dat (.int m)), some (.dat (tP r)), some (.dat (.int x)), some (.dat (.int y)), some (.dat (.tuple [.int m, tP r, .int x, .int y])), some (.dat (lTI (roadsB r x y))), none, none, none, none, none, none] = some ((setsB m r x y).map fun s => tI s) := by
    refine lcV_enc (enc := fun s => tI s) (fun s => apB r x y s) (fun s => tI s) (setsN m) (itL_eq (sets_of m hm) (by rw [List.length_map]; exact ss)) ss fun s hs => ⟨_, rfl, ?_, fun _ => rfl⟩
    refine tb_eq ((h_any (as := [.int m, tP r, .int x, .int y]) (p := tI s) f_apart rfl ?_ : F_holds [.tuple (.str "apart" :: [.int m, tP r, .int x, .int y]), tI s] = _).trans (s_takes_apart h s (ok_sets m hm s hs)))
    refine LayK.sh (k := 3) (lay_tup fun d hd => ?_) (by decide)
    simp only [List.mem_cons, List.not_mem_nil, or_false] at hd
    rcases hd with rfl | rfl | rfl | rfl | rfl
    · exact lay_str 2 _ (by kernel_rfl)
    · exact lay_int 2 _
    · exact lay_tP r
    · exact lay_int 2 _
    · exact lay_int 2 _
  have shL : ∀ l : List (List Int), SeqAt.shaped (lTI l) = true := fun l => LayK.sh (k := 2) (lay_lst fun d hd => by
    obtain ⟨s, _, rfl⟩ := List.mem_map.mp hd
    exact lay_tI s) (by decide)
  have e3 : ∀ n7 n8 n9 n10 : Option En, (b2 (b2 (gD 5) (lsV (lstV nilA)) (oEqD false)) (b2 (gD 6) (lsV (lstV nilA)) (oEqD true)) (oEqD true)) (nq m r x y n7 n8 n9 n10) = some (.bool ((roadsB r x y).isEmpty != !(setsB m r x y).isEmpty)) := fun n7 n8 n9 n10 => by
    have z1 := eq_lnil false ((roadsB r x y).map fun s => tI s) (shL _)
    have z2 := eq_lnil true ((setsB m r x y).map fun s => tI s) (shL _)
    rw [List.isEmpty_map] at z1 z2
    have y1 : (b2 (gD 5) (lsV (lstV nilA)) (oEqD false)) (nq m r x y n7 n8 n9 n10) = some (.bool (roadsB r x y).isEmpty) := z1
    have y2 : (b2 (gD 6) (lsV (lstV nilA)) (oEqD true)) (nq m r x y n7 n8 n9 n10) = some (.bool (!(setsB m r x y).isEmpty)) := z2
    exact (b2_eq y1 y2).trans (ne_bb _ _)
  refine runS_rt rfl ((seqS_nx rfl).trans ((seqS_nx (asg_eq (ls_eq e1))).trans ((seqS_nx (asg_eq (ls_eq e2))).trans ?_)))
  unfold twoB
  by_cases hb : ((roadsB r x y).isEmpty != !(setsB m r x y).isEmpty) = true
  · rw [if_pos hb]
    have e4 := tb_eq (e3 none none none none)
    rw [hb] at e4
    exact seqS_rt ((ifS_t e4).trans rfl)
  · rw [if_neg hb]
    have e4 := tb_eq (e3 none none none none)
    rw [Bool.not_eq_true _ |>.mp hb] at e4
    refine (seqS_nx ((ifS_f e4).trans rfl)).trans ((seqS_nx rfl).trans ?_)
    have hk : (ksN (r.length + 2)).Nodup := by
      unfold ksN
      refine List.Pairwise.map _ (fun a b hab z => hab (by exact Int.ofNat.inj z)) List.nodup_range
    have hl : (ksN (r.length + 2)).length = r.length + 2 := by unfold ksN; rw [List.length_map, List.length_range]
    have hro : (roadsB r x y).length ≤ 1000 ∧ ∀ l ∈ roadsB r x y, l.length ≤ 1000 := ⟨Nat.le_trans (List.length_filter_le ..) hrl.1, fun l hl => hrl.2 l (List.mem_filter.mp hl).1⟩
    obtain ⟨a, b, c, e5⟩ := outer hm h (roadsB r x y) (setsB m r x y) hro (ksN (r.length + 2)) [] none none none (fun k _ z => by cases z) hk (by rw [hl]; simp; omega)
    have e6 : (itR1 (consA (b2 (c1 (consA (gD 1) nilA) oLen) (fun _ => some (.int 2)) oAdd) nilA)) (nw m r x y (roadsB r x y) (setsB m r x y) [] none none none) = some (eI (ksN (r.length + 2))) := by
      rw [← rgD_ks]
      show ((iA1 [.int ((((r.map eP).length : Nat) : Int) + 2)]).bind _) = _
      rw [List.length_map]
      show (if rgOk (0, ((r.length : Int) + 2)) = true then some (rgD 0 ((r.length : Int) + 2)) else none) = _
      have : rgOk (0, ((r.length : Int) + 2)) = true := by
        unfold rgOk
        rw [decide_eq_true_eq]
        exact ⟨by show (-1000 : Int) ≤ 0; decide, by show (0 : Int) ≤ 1000; decide, by show (-1000 : Int) ≤ (r.length : Int) + 2; omega, by show ((r.length : Int) + 2) ≤ 1000; omega⟩
      rw [if_pos this]
      rfl
    refine (seqS_nx ((forS_eq e6).trans e5)).trans ?_
    refine ret_eq ?_
    have z1 := eq_lnil true ((roadsB r x y).map fun s => tI s) (shL _)
    rw [List.isEmpty_map] at z1
    refine (b2_eq (x := .int ((momB m r x y).length : Nat)) (y := .int (if (!(roadsB r x y).isEmpty) = true then 1 else 0)) ?_ ((c1_eq (consA_eq z1 rfl)).trans rfl)).trans ((eq_ii _ _).trans ?_)
    · show some (PyData.int (((eI ([] ++ _)).length : Nat) : Int)) = _
      rw [eI_len, List.nil_append]
      rfl
    · cases (roadsB r x y).isEmpty <;> rfl
end
end Qd
end
section
set_option Elab.async false
set_option linter.all false
set_option autoImplicit false
set_option maxRecDepth 100000
set_option maxHeartbeats 1000000
/-! P5: roads and sets on four things: just one of both. -/
namespace Qd

/-! ### the finite part -/
def ixM (i j : Nat) : Nat := if i < j then (if i = 0 then j - 1 else if i = 1 then j + 1 else 5) else (if j = 0 then i - 1 else if j = 1 then i + 1 else 5)
def AM (k i j : Nat) : Bool := i == j || k.testBit (ixM i j)
def pathM (m k x y : Nat) : Bool := (List.range m).any fun a => (List.range m).any fun b => AM k x a && AM k a b && AM k b y
def closM (m k : Nat) (s : List Int) : Bool := (List.range m).all fun i => (List.range m).all fun j => !AM k i j || (decide ((i : Int) ∈ s) == decide ((j : Int) ∈ s))
def setM (m k x y : Nat) : Bool := (setsN m).any fun s => decide ((x : Int) ∈ s) && !decide ((y : Int) ∈ s) && closM m k s
theorem finM : ((List.range 64).all fun k => [2, 3, 4].all fun m => (List.range m).all fun x => (List.range m).all fun y => x == y || pathM m k x y || setM m k x y) = true := by decide +kernel
theorem fin_at {k m x y : Nat} (hk : k < 64) (hm : m = 2 ∨ m = 3 ∨ m = 4) (hx : x < m) (hy : y < m) (hxy : x ≠ y) : pathM m k x y = true ∨ setM m k x y = true := by
  have h := finM
  rw [List.all_eq_true] at h
  have h1 := h k (List.mem_range.mpr hk)
  rw [List.all_eq_true] at h1
  have h2 := h1 m (by rcases hm with rfl | rfl | rfl <;> simp)
  rw [List.all_eq_true] at h2
  have h3 := h2 x (List.mem_range.mpr hx)
  rw [List.all_eq_true] at h3
  have h4 := h3 y (List.mem_range.mpr hy)
  rw [Bool.or_eq_true, Bool.or_eq_true] at h4
  rcases h4 with (h4 | h4) | h4
  · exact absurd (by simpa using h4) hxy
  · exact .inl h4
  · exact .inr h4
def b2n (b : Bool) : Nat := if b = true then 1 else 0
def maskM (A : Nat → Nat → Bool) : Nat := b2n (A 0 1) + 2 * b2n (A 0 2) + 4 * b2n (A 0 3) + 8 * b2n (A 1 2) + 16 * b2n (A 1 3) + 32 * b2n (A 2 3)
theorem mask_bits : ∀ a b c d e f : Bool, (b2n a + 2 * b2n b + 4 * b2n c + 8 * b2n d + 16 * b2n e + 32 * b2n f < 64) ∧ (b2n a + 2 * b2n b + 4 * b2n c + 8 * b2n d + 16 * b2n e + 32 * b2n f).testBit 0 = a ∧ (b2n a + 2 * b2n b + 4 * b2n c + 8 * b2n d + 16 * b2n e + 32 * b2n f).testBit 1 = b ∧
    (b2n a + 2 * b2n b + 4 * b2n c + 8 * b2n d + 16 * b2n e + 32 * b2n f).testBit 2 = c ∧ (b2n a + 2 * b2n b + 4 * b2n c + 8 * b2n d + 16 * b2n e + 32 * b2n f).testBit 3 = d ∧ (b2n a + 2 * b2n b + 4 * b2n c + 8 * b2n d + 16 * b2n e + 32 * b2n f).testBit 4 = e ∧
    (b2n a + 2 * b2n b + 4 * b2n c + 8 * b2n d + 16 * b2n e + 32 * b2n f).testBit 5 = f := by decide
theorem AM_mask {A : Nat → Nat → Bool} (sym : ∀ i j, A i j = A j i) {i j : Nat} (hi : i < 4) (hj : j < 4) : AM (maskM A) i j = (i == j || A i j) := by
  obtain ⟨_, h0, h1, h2, h3, h4, h5⟩ := mask_bits (A 0 1) (A 0 2) (A 0 3) (A 1 2) (A 1 3) (A 2 3)
  unfold AM maskM
  have ci : i = 0 ∨ i = 1 ∨ i = 2 ∨ i = 3 := by omega
  have cj : j = 0 ∨ j = 1 ∨ j = 2 ∨ j = 3 := by omega
  have s10 := sym 1 0
  have s20 := sym 2 0
  have s30 := sym 3 0
  have s21 := sym 2 1
  have s31 := sym 3 1
  have s32 := sym 3 2
  rcases ci with rfl | rfl | rfl | rfl <;> rcases cj with rfl | rfl | rfl | rfl <;> simp [ixM, h0, h1, h2, h3, h4, h5, s10, s20, s30, s21, s31, s32]
/-! ### lists of numbers -/
theorem mem_last (n : Nat) : ∀ (t : Nat) (l : List Int), l.length = t → (∀ i ∈ l, 0 ≤ i ∧ i < n) → l ∈ rowsN.lastN n t
  | 0, l, h, _ => by
    rw [List.length_eq_zero_iff.mp h]
    simp [rowsN.lastN]
  | t + 1, l, h, hl => by
    have hne : l ≠ [] := fun z => by rw [z] at h; cases h
    have e := List.dropLast_concat_getLast hne
    have ih := mem_last n t l.dropLast (by rw [List.length_dropLast, h]; rfl) fun i hi => hl i ((List.dropLast_sublist l).subset hi)
    have hlast := hl _ (List.getLast_mem hne)
    show l ∈ longer n (rowsN.lastN n t)
    unfold longer
    refine List.mem_flatMap.mpr ⟨l.dropLast, ih, List.mem_map.mpr ⟨(l.getLast hne).toNat, List.mem_range.mpr (by omega), ?_⟩⟩
    rw [Int.toNat_of_nonneg hlast.1]
    exact e
theorem mem_rows (n : Nat) : ∀ (t : Nat) (l : List Int), l.length ≤ t → (∀ i ∈ l, 0 ≤ i ∧ i < n) → l ∈ rowsN n t
  | 0, l, h, hl => by
    have : l = [] := List.length_eq_zero_iff.mp (by omega)
    rw [this]
    simp [rowsN]
  | t + 1, l, h, hl => by
    show l ∈ rowsN n t ++ rowsN.lastN n (t + 1)
    by_cases z : l.length ≤ t
    · exact List.mem_append_left _ (mem_rows n t l z hl)
    · exact List.mem_append_right _ (mem_last n (t + 1) l (by omega) hl)
/-! ### steps -/
def adjB (r : List (Int × Int)) (i j : Int) : Bool := r.any fun p => (p.1 == i && p.2 == j) || (p.1 == j && p.2 == i)
theorem adjB_sym (r : List (Int × Int)) (i j : Int) : adjB r i j = adjB r j i := by
  unfold adjB
  congr 1
  funext p
  rw [Bool.or_comm]
theorem adj_step {r : List (Int × Int)} {a b : Int} (h : adjB r a b = true) : ∃ i : Nat, i < r.length ∧ ∃ p, r[i]? = some p ∧ endB p a = some b := by
  obtain ⟨p, hp, h2⟩ := List.any_eq_true.mp h
  obtain ⟨i, hi, e⟩ := List.mem_iff_getElem.mp hp
  refine ⟨i, hi, p, by rw [List.getElem?_eq_getElem hi, e], ?_⟩
  rw [Bool.or_eq_true, Bool.and_eq_true, Bool.and_eq_true, beq_iff_eq, beq_iff_eq, beq_iff_eq, beq_iff_eq] at h2
  unfold endB
  rcases h2 with ⟨h3, h4⟩ | ⟨h3, h4⟩
  · rw [if_pos h3.symm, h4]
  · by_cases z : a = p.1
    · rw [if_pos z, h4, z, h3]
    · rw [if_neg z, if_pos h4.symm, h3]
theorem goes_cons {r : List (Int × Int)} {i : Nat} {p : Int × Int} {a b e : Int} {l : List Int} (hi : i < r.length) (hp : r[i]? = some p) (he : endB p a = some b) : goesB r ((i : Int) :: l) a e = goesB r l b e := by
  show (if 0 ≤ (i : Int) ∧ (i : Int) < r.length then (match r[(i : Int).toNat]? with
    | some p => (match endB p a with
      | some k => goesB r l k e
      | none => false)
    | none => false) else false) = _
  rw [if_pos ⟨by omega, by omega⟩, Int.toNat_natCast, hp]
  show (match endB p a with
      | some k => goesB r l k e
      | none => false) = _
  rw [he]
/-- a stay or a step -/
theorem step_road {r : List (Int × Int)} {a b e : Int} {l : List Int} (h : a = b ∨ adjB r a b = true) (hl : goesB r l b e = true) (hr : ∀ i ∈ l, 0 ≤ i ∧ i < (r.length : Int)) : ∃ l' : List Int, l'.length ≤ l.length + 1 ∧ goesB r l' a e = true ∧ ∀ i ∈ l', 0 ≤ i ∧ i < (r.length : Int) := by
  rcases h with rfl | h
  · exact ⟨l, by omega, hl, hr⟩
  · obtain ⟨i, hi, p, hp, he⟩ := adj_step h
    refine ⟨(i : Int) :: l, by rw [List.length_cons]; omega, by rw [goes_cons hi hp he]; exact hl, fun j hj => ?_⟩
    rcases List.mem_cons.mp hj with rfl | hj
    · exact ⟨by omega, by omega⟩
    · exact hr j hj
/-- a road stays within a set that no join leaves -/
theorem goes_shut {r : List (Int × Int)} {s : List Int} (hs : shB s r = true) : ∀ (l : List Int) (h e : Int), goesB r l h e = true → (h ∈ s ↔ e ∈ s)
  | [], h, e, g => by
    have : h = e := of_decide_eq_true g
    rw [this]
  | n :: l, h, e, g => by
    have g : (if 0 ≤ n ∧ n < r.length then (match r[n.toNat]? with
      | some p => (match endB p h with
        | some k => goesB r l k e
        | none => false)
      | none => false) else false) = true := g
    by_cases hn : 0 ≤ n ∧ n < r.length
    · rw [if_pos hn] at g
      cases hp : r[n.toNat]? with
      | none => rw [hp] at g; cases g
      | some p =>
        rw [hp] at g
        have g : (match endB p h with
          | some k => goesB r l k e
          | none => false) = true := g
        cases he : endB p h with
        | none => rw [he] at g; cases g
        | some k =>
          rw [he] at g
          have ih := goes_shut hs l k e g
          have hm := List.all_eq_true.mp hs p (List.mem_of_getElem? hp)
          rw [beq_iff_eq] at hm
          have hm : (p.1 ∈ s ↔ p.2 ∈ s) := by
            constructor
            · intro z; rw [decide_eq_true z] at hm; exact of_decide_eq_true hm.symm
            · intro z; rw [decide_eq_true z] at hm; exact of_decide_eq_true hm
          rw [← ih]
          unfold endB at he
          by_cases z : h = p.1
          · rw [if_pos z] at he
            cases he
            rw [z]
            exact hm
          · rw [if_neg z] at he
            by_cases z2 : h = p.2
            · rw [if_pos z2] at he
              cases he
              rw [z2]
              exact hm.symm
            · rw [if_neg z2] at he
              cases he
    · rw [if_neg hn] at g
      cases g
theorem goes_take {r : List (Int × Int)} (k : Nat) : ∀ (l : List Int) (h e : Int), goesB (r.take k) l h e = true → goesB r l h e = true
  | [], _, _, g => g
  | n :: l, h, e, g => by
    have g : (if 0 ≤ n ∧ n < (r.take k).length then (match (r.take k)[n.toNat]? with
      | some p => (match endB p h with
        | some k => goesB (r.take _) l k e
        | none => false)
      | none => false) else false) = true := g
    by_cases hn : 0 ≤ n ∧ n < (r.take k).length
    · rw [if_pos hn] at g
      have hl : (r.take k).length ≤ r.length := by rw [List.length_take]; omega
      cases hp : (r.take k)[n.toNat]? with
      | none => rw [hp] at g; cases g
      | some p =>
        rw [hp] at g
        have hp2 : r[n.toNat]? = some p := by
          have z := hp
          rw [List.getElem?_take] at z
          split at z
          · exact z
          · cases z
        have g : (match endB p h with
          | some j => goesB (r.take k) l j e
          | none => false) = true := g
        cases he : endB p h with
        | none => rw [he] at g; cases g
        | some j =>
          rw [he] at g
          show (if 0 ≤ n ∧ n < r.length then (match r[n.toNat]? with
            | some p => (match endB p h with
              | some k => goesB r l k e
              | none => false)
            | none => false) else false) = true
          rw [if_pos ⟨hn.1, by omega⟩, hp2]
          show (match endB p h with
              | some k => goesB r l k e
              | none => false) = true
          rw [he]
          exact goes_take k l j e g
    · rw [if_neg hn] at g
      cases g
/-! ### road or set -/
def CB (n : Nat) (r : List (Int × Int)) (x y : Int) : Bool := (rowsN n 3).any fun l => goesB r l x y
def PB (m : Nat) (r : List (Int × Int)) (x y : Int) : Bool := (setsN m).any fun s => apB r x y s
theorem road_xor_set {m n : Nat} {r : List (Int × Int)} {x y : Int} (hm : m = 2 ∨ m = 3 ∨ m = 4) (hn : r.length ≤ n) (hr : (r.all fun p => inR m p.1 && inR m p.2) = true) (hx : inR m x = true) (hy : inR m y = true) (hxy : x ≠ y) : PB m r x y = !CB n r x y := by
  have rng : ∀ {z : Int}, inR m z = true → ∃ k : Nat, k < m ∧ z = (k : Int) := fun {z} h => by
    unfold inR at h
    rw [Bool.and_eq_true, decide_eq_true_eq, decide_eq_true_eq] at h
    exact ⟨z.toNat, by omega, by omega⟩
  have m4 : m ≤ 4 := by rcases hm with rfl | rfl | rfl <;> decide
  cases hc : CB n r x y with
  | true =>
    obtain ⟨l, _, hl⟩ := List.any_eq_true.mp hc
    refine (Bool.not_eq_true _).mp fun hp => ?_
    obtain ⟨s, _, hs⟩ := List.any_eq_true.mp hp
    unfold apB at hs
    rw [Bool.and_eq_true, Bool.and_eq_true, decide_eq_true_eq, Bool.not_eq_true', decide_eq_false_iff_not] at hs
    exact hs.1.2 ((goes_shut hs.2 l x y hl).mp hs.1.1)
  | false =>
    obtain ⟨x', hx', rfl⟩ := rng hx
    obtain ⟨y', hy', rfl⟩ := rng hy
    have hne : x' ≠ y' := fun z => hxy (by rw [z])
    obtain ⟨hk, _⟩ := mask_bits (adjB r 0 1) (adjB r 0 2) (adjB r 0 3) (adjB r 1 2) (adjB r 1 3) (adjB r 2 3)
    have AMr : ∀ {i j : Nat}, i < m → j < m → AM (maskM fun i j => adjB r i j) i j = (i == j || adjB r i j) := fun {i j} hi hj => AM_mask (A := fun i j => adjB r (i : Int) (j : Int)) (fun i j => adjB_sym r i j) (by omega) (by omega)
    rcases fin_at (k := maskM fun i j => adjB r i j) hk hm hx' hy' hne with h | h
    · exfalso
      obtain ⟨a, ha, h⟩ := List.any_eq_true.mp h
      obtain ⟨b, hb, h⟩ := List.any_eq_true.mp h
      have ha := List.mem_range.mp ha
      have hb := List.mem_range.mp hb
      rw [Bool.and_eq_true, Bool.and_eq_true, AMr hx' ha, AMr ha hb, AMr hb hy'] at h
      have st : ∀ {i j : Nat}, (i == j || adjB r i j) = true → (i : Int) = (j : Int) ∨ adjB r (i : Int) (j : Int) = true := fun {i j} z => by
        rw [Bool.or_eq_true, beq_iff_eq] at z
        exact z.imp (fun z => by rw [z]) id
      obtain ⟨l1, n1, g1, r1⟩ := step_road (l := []) (e := (y' : Int)) (st h.2) (by exact decide_eq_true rfl) (fun i hi => by cases hi)
      obtain ⟨l2, n2, g2, r2⟩ := step_road (st h.1.2) g1 r1
      obtain ⟨l3, n3, g3, r3⟩ := step_road (st h.1.1) g2 r2
      have : CB n r x' y' = true := List.any_eq_true.mpr ⟨l3, mem_rows n 3 l3 (by simp at n1; omega) (fun i hi => ⟨(r3 i hi).1, by have := (r3 i hi).2; omega⟩), g3⟩
      rw [this] at hc
      cases hc
    · obtain ⟨s, hs, h⟩ := List.any_eq_true.mp h
      rw [Bool.and_eq_true, Bool.and_eq_true] at h
      refine List.any_eq_true.mpr ⟨s, hs, ?_⟩
      unfold apB
      rw [Bool.and_eq_true, Bool.and_eq_true]
      refine ⟨h.1, List.all_eq_true.mpr fun p hp => ?_⟩
      have hpr := List.all_eq_true.mp hr p hp
      rw [Bool.and_eq_true] at hpr
      obtain ⟨i, hi, e1⟩ := rng hpr.1
      obtain ⟨j, hj, e2⟩ := rng hpr.2
      have hcl := List.all_eq_true.mp (List.all_eq_true.mp h.2 i (List.mem_range.mpr hi)) j (List.mem_range.mpr hj)
      rw [AMr hi hj] at hcl
      have ad : adjB r (i : Int) (j : Int) = true := List.any_eq_true.mpr ⟨p, hp, by rw [e1, e2]; simp⟩
      rw [ad, Bool.or_true, Bool.not_true, Bool.false_or] at hcl
      rw [e1, e2]
      exact hcl
end Qd
end
section
set_option Elab.async false
set_option linter.all false
set_option autoImplicit false
set_option maxRecDepth 100000
set_option maxHeartbeats 1000000
/-! P6: two_right answers True. -/
namespace Qd
open PySem
theorem filter_isEmpty {α : Type} (p : α → Bool) : ∀ l : List α, (l.filter p).isEmpty = !l.any p
  | [] => rfl
  | a :: l => by
    rw [List.any_cons]
    cases h : p a with
    | true => rw [List.filter_cons_of_pos h]; rfl
    | false => rw [List.filter_cons_of_neg (by rw [h]; simp), filter_isEmpty p l, Bool.false_or]
theorem ksN_succ (n : Nat) : ksN (n + 1) = ksN n ++ [(n : Int)] := by
  unfold ksN
  rw [List.range_succ, List.map_append]
  rfl
theorem goes_nil {x y : Int} (hxy : x ≠ y) : ∀ l : List Int, goesB [] l x y = false
  | [] => decide_eq_false hxy
  | n :: l => by
    show (if 0 ≤ n ∧ n < ((([] : List (Int × Int)).length : Nat) : Int) then _ else false) = false
    rw [if_neg (fun z => by have := z.2; simp at this; omega)]
section
variable {m : Nat} {r : List (Int × Int)} {x y : Int}
theorem all_take (k : Nat) (h : (r.all fun p => inR m p.1 && inR m p.2) = true) : ((r.take k).all fun p => inR m p.1 && inR m p.2) = true :=
  List.all_eq_true.mpr fun p hp => List.all_eq_true.mp h p (List.mem_of_mem_take hp)
theorem cB_mono (n k : Nat) (h : CB n (r.take k) x y = true) : CB n (r.take (k + 1)) x y = true := by
  obtain ⟨l, hl, g⟩ := List.any_eq_true.mp h
  refine List.any_eq_true.mpr ⟨l, hl, goes_take k l x y ?_⟩
  rw [List.take_take, Nat.min_eq_left (by omega)]
  exact g
theorem acc_in {j : Nat} (h1 : 1 ≤ j) (h2 : j ≤ r.length) : ((setsN m).any (accB r x y (roadsB r x y) (j : Int))) = (CB r.length (r.take j) x y && PB m (r.take (j - 1)) x y) := by
  rw [Bool.eq_iff_iff, Bool.and_eq_true]
  have fb : ∀ road s, firstB r x y (j : Int) road s = (goesB (r.take j) road x y && apB (r.take (j - 1)) x y s) := fun road s => by
    unfold firstB
    rw [if_pos ⟨by omega, by omega⟩]
    have e1 : ((j : Int)).toNat = j := by omega
    have e2 : ((j : Int) - 1).toNat = j - 1 := by omega
    rw [e1, e2]
  constructor
  · intro h
    obtain ⟨s, hs, h⟩ := List.any_eq_true.mp h
    obtain ⟨road, hr, h⟩ := List.any_eq_true.mp h
    rw [fb, Bool.and_eq_true] at h
    exact ⟨List.any_eq_true.mpr ⟨road, (List.mem_filter.mp hr).1, h.1⟩, List.any_eq_true.mpr ⟨s, hs, h.2⟩⟩
  · rintro ⟨h, h'⟩
    obtain ⟨road, hr, g⟩ := List.any_eq_true.mp h
    obtain ⟨s, hs, a⟩ := List.any_eq_true.mp h'
    refine List.any_eq_true.mpr ⟨s, hs, List.any_eq_true.mpr ⟨road, List.mem_filter.mpr ⟨hr, goes_take j road x y g⟩, ?_⟩⟩
    rw [fb, Bool.and_eq_true]
    exact ⟨g, a⟩
theorem acc_out {k : Int} (h : ¬ (1 ≤ k ∧ k ≤ r.length)) : ((setsN m).any (accB r x y (roadsB r x y) k)) = false := by
  refine (Bool.not_eq_true _).mp fun z => ?_
  obtain ⟨s, hs, z⟩ := List.any_eq_true.mp z
  obtain ⟨road, hr, z⟩ := List.any_eq_true.mp z
  unfold firstB at z
  rw [if_neg h] at z
  cases z
theorem twoB_true (hm : m = 2 ∨ m = 3 ∨ m = 4) (h : Rw m r x y) (hxy : x ≠ y) : twoB m r x y = true := by
  have xs : ∀ k, PB m (r.take k) x y = !CB r.length (r.take k) x y := fun k => road_xor_set hm (by rw [List.length_take]; omega) (all_take k h.all) h.x h.y hxy
  have e0 : CB r.length (r.take 0) x y = false := (Bool.not_eq_true _).mp fun z => by
    obtain ⟨l, _, g⟩ := List.any_eq_true.mp z
    rw [List.take_zero, goes_nil hxy] at g
    cases g
  have en := List.take_length (l := r)
  have acc : ∀ j, j ≤ r.length → ((ksN (j + 1)).filter fun k => (setsN m).any (accB r x y (roadsB r x y) k)).length = b2n (CB r.length (r.take j) x y) := by
    intro j
    induction j with
    | zero =>
      intro _
      have e : ((setsN m).any (accB r x y (roadsB r x y) ((0 : Nat) : Int))) = false := acc_out (by omega)
      rw [e0]
      show ([((0 : Nat) : Int)].filter _).length = 0
      rw [List.filter_cons_of_neg (by rw [e]; simp)]
      rfl
    | succ j ih =>
      intro hj
      have ih := ih (by omega)
      rw [ksN_succ, List.filter_append, List.length_append, ih]
      have e := acc_in (m := m) (r := r) (x := x) (y := y) (j := j + 1) (by omega) hj
      rw [show j + 1 - 1 = j from rfl, xs j] at e
      cases h1 : CB r.length (r.take j) x y with
      | true =>
        rw [h1] at e
        rw [cB_mono r.length j h1, List.filter_cons_of_neg (by rw [e]; simp)]
        rfl
      | false =>
        rw [h1] at e
        cases h2 : CB r.length (r.take (j + 1)) x y with
        | true => rw [h2] at e; rw [List.filter_cons_of_pos (by rw [e]; rfl)]; rfl
        | false => rw [h2] at e; rw [List.filter_cons_of_neg (by rw [e]; simp)]; rfl
  have ml : (momB m r x y).length = b2n (CB r.length r x y) := by
    unfold momB
    rw [ksN_succ, List.filter_append, List.length_append, acc r.length (Nat.le_refl _), en]
    have e : ((setsN m).any (accB r x y (roadsB r x y) ((r.length + 1 : Nat) : Int))) = false := acc_out (by omega)
    rw [List.filter_cons_of_neg (by rw [e]; simp)]
    rfl
  have x0 := xs r.length
  rw [en] at x0
  have er : (roadsB r x y).isEmpty = !CB r.length r x y := filter_isEmpty _ _
  have es : (setsB m r x y).isEmpty = !PB m r x y := filter_isEmpty _ _
  unfold twoB
  rw [er, es, ml, x0]
  cases CB r.length r x y <;> rfl
theorem two_right (hm : m = 2 ∨ m = 3 ∨ m = 4) (hr : r.length ≤ 4) (h : Rw m r x y) (hxy : x ≠ y) : F_law_two_right [.int m, tP r, .int x, .int y] = some (.bool true) := by
  rw [two_right_eq hm hr h, twoB_true hm h hxy]
end
end Qd
end
section
set_option Elab.async false
set_option linter.all false
set_option autoImplicit false
set_option maxRecDepth 100000
set_option maxHeartbeats 1000000
/-! P7: two rows of lots: chains and sets in plain words. -/
namespace Qd
open PySem
open PySem.Spec
abbrev tL (L : List (List Int)) : D := .tuple (L.map fun s => tI s)
def LotsOk (m : Int) (L : List (List Int)) : Prop := F_are_lots [.int m, tL L] = some (.bool true)
def besB (L : List (List Int)) (a b : Int) : Bool := L.any fun lot => decide (a ∈ lot) && decide (b ∈ lot)
theorem s_beside (L : List (List Int)) (a b : Int) (hl : L.length ≤ 1000) : F_are_beside [tL L, .int a, .int b] = some (.bool (besB L a b)) :=
  runS_rt rfl (ret_eq (any_enc (enc := fun s => tI s) (fun lot => decide (a ∈ lot) && decide (b ∈ lot)) L (itT_eq rfl (by rw [List.length_map]; exact hl)) hl fun lot _ => ⟨_, rfl, andV_eq (in_I false a lot) fun _ => in_I false b lot⟩))
structure Tw (m : Int) (L1 L2 : List (List Int)) (x y : Int) : Prop where
  m1 : 1 ≤ m
  m2 : m ≤ 40
  l1 : L1.length ≤ 100
  l2 : L2.length ≤ 100
  o1 : LotsOk m L1
  o2 : LotsOk m L2
  s1 : ∀ l ∈ L1, l.length ≤ 100
  s2 : ∀ l ∈ L2, l.length ≤ 100
  x : inR m x = true
  y : inR m y = true
section
variable {m : Int} {L1 L2 : List (List Int)} {x y : Int}
theorem s_two_lots (h : Tw m L1 L2 x y) : F_are_two_lots [.tuple [.int m, tL L1, tL L2, .int x, .int y]] = some (.bool true) := by
  refine runS_rt rfl ((seqS_nx rfl).trans (ret_eq (andV_eq (a := true) (b := true) ?_ fun _ => andV_eq (a := true) (b := true) ?_ fun _ => andV_eq (a := true) (b := true) ?_ fun _ => ?_)))
  · exact (s_is_many m).trans (by rw [decide_eq_true h.m1, decide_eq_true h.m2]; rfl)
  · exact h.o1
  · exact h.o2
  · exact (s_are_two m x y).trans (by rw [h.x, h.y]; rfl)
theorem ix_last (ds : List D) (d : D) (h : ds[ds.length - 1]? = some d) : oIx (.tuple ds) (.int (-1)) = some d := by
  have hl : ds.length - 1 < ds.length := (List.getElem?_eq_some_iff.mp h).1
  show (L2.atI ds (-1)) = some d
  unfold L2.atI L2.ixN
  rw [if_neg (by decide), if_pos (by omega)]
  show ds[((-1 : Int) + ds.length).toNat]? = some d
  have : ((-1 : Int) + ds.length).toNat = ds.length - 1 := by omega
  rw [this]
  exact h
def atL (l : List Int) (k : Nat) : Int := l.getD k 0
theorem atL_some {l : List Int} {k : Nat} (h : k < l.length) : l[k]? = some (atL l k) := by
  unfold atL
  rw [List.getD_eq_getElem?_getD, List.getElem?_eq_getElem h]
  rfl
def chainB (L : List (List Int)) (l : List Int) : Bool := (ksN (l.length - 1)).all fun k => besB L (atL l k.toNat) (atL l (k.toNat + 1))
def togB (L : List (List Int)) (x y : Int) (l : List Int) : Bool := if l = [] then false else if atL l 0 ≠ x ∨ atL l (l.length - 1) ≠ y then false else chainB L l
theorem ksN_mem {n : Nat} {k : Int} (h : k ∈ ksN n) : ∃ j : Nat, j < n ∧ k = (j : Int) := by
  obtain ⟨j, hj, rfl⟩ := List.mem_map.mp h
  exact ⟨j, List.mem_range.mp hj, rfl⟩
theorem ksN_len (n : Nat) : (ksN n).length = n := by unfold ksN; rw [List.length_map, List.length_range]
theorem ix_at (l : List Int) {k : Nat} (h : k < l.length) : oIx (tI l) (.int (k : Int)) = some (.int (atL l k)) :=
  ix_nat (eI l) k _ (by unfold eI; rw [List.getElem?_map, atL_some h]; rfl)
theorem ne_ii (i j : Int) : oEqD true (.int i) (.int j) = some (.bool (!decide (i = j))) := by
  simp [oEqD, SeqAt.shaped, PyData.eqv, Bool.beq_eq_decide_eq, PyData.canLay0, PyData.depth]
theorem eq_tnil (l : List Int) : oEqD false (tI l) (.tuple []) = some (.bool l.isEmpty) := by
  have h := (lay_tI l).sh (by decide)
  unfold oEqD
  rw [h]
  cases l with
  | nil => rfl
  | cons a l =>
    have e : PyData.eqv (tI (a :: l)) (.tuple []) = false := by simp [eI, PyData.eqv, PyData.eqvAll]
    rw [e]
    rfl
theorem cat_lots (L1 L2 : List (List Int)) (h1 : L1.length ≤ 100) (h2 : L2.length ≤ 100) : oAdd (tL L1) (tL L2) = some (tL (L1 ++ L2)) := by
  show (if (L1.map fun s => tI s).length + (L2.map fun s => tI s).length ≤ lim then some (PyData.tuple ((L1.map fun s => tI s) ++ (L2.map fun s => tI s))) else none) = _
  rw [List.length_map, List.length_map, if_pos (Nat.le_trans (Nat.add_le_add h1 h2) (by decide)), ← List.map_append]
theorem s_together (h : Tw m L1 L2 x y) (l : List Int) (hl : l.length ≤ 900) (hr : (l.all fun i => inR m i) = true) : F_takes_together [.tuple [.int m, tL L1, tL L2, .int x, .int y], tI l] = some (.bool (togB (L1 ++ L2) x y l)) := by
  refine runS_rt rfl ((seqS_nx ((ifS_f (notT_f (tb_eq (s_two_lots h)))).trans rfl)).trans ((seqS_nx rfl).trans ?_))
  have ea : (c1 (consA (lsV (lcV (itT (gD 1)) (setN 8) yesT (c1 (consA (gD 2) (consA (gD 8) nilA)) F_is_thing_of) [8])) nilA) oAll) [some (.dat (.tuple [.int m, tL L1, tL L2, .int x, .int y])), some (.dat (tI l)), some (.dat (.int m)), some (.dat (tL L1)), some (.dat (tL L2)), some (.dat (.int x)), some (.dat (.int y)), none, none] = some (.bool (l.all fun i => inR m i)) :=
    all_enc (enc := PyData.int) (fun i => inR m i) l (itT_eq rfl (by rw [List.length_map]; omega)) (by omega) fun i _ => ⟨_, rfl, s_is_thing_of m i⟩
  rw [hr] at ea
  have en : (b2 (gD 1) (tupV nilA) (oEqD false)) [some (.dat (.tuple [.int m, tL L1, tL L2, .int x, .int y])), some (.dat (tI l)), some (.dat (.int m)), some (.dat (tL L1)), some (.dat (tL L2)), some (.dat (.int x)), some (.dat (.int y)), none, none] = some (.bool l.isEmpty) := eq_tnil l
  have ew : (c1 (consA (gD 1) nilA) F_are_wholes) [some (.dat (.tuple [.int m, tL L1, tL L2, .int x, .int y])), some (.dat (tI l)), some (.dat (.int m)), some (.dat (tL L1)), some (.dat (tL L2)), some (.dat (.int x)), some (.dat (.int y)), none, none] = some (.bool true) := s_are_wholes l (by omega)
  have e1 := orT_eq (notT_f (tb_eq ew)) fun _ => orT_eq (notT_f (tb_eq ea)) fun _ => tb_eq en
  unfold togB
  cases l with
  | nil =>
    rw [if_pos rfl]
    exact seqS_rt ((ifS_t e1).trans rfl)
  | cons a t =>
    rw [if_neg (by simp)]
    refine (seqS_nx ((ifS_f e1).trans rfl)).trans ?_
    have f0 : (tb (b2 (b2 (gD 1) (fun _ => some (.int 0)) oIx) (gD 5) (oEqD true))) [some (.dat (.tuple [.int m, tL L1, tL L2, .int x, .int y])), some (.dat (tI (a :: t))), some (.dat (.int m)), some (.dat (tL L1)), some (.dat (tL L2)), some (.dat (.int x)), some (.dat (.int y)), none, none] = some (!decide (atL (a :: t) 0 = x)) :=
      by
        have z0 : (b2 (gD 1) (fun _ => some (.int 0)) oIx) [some (.dat (.tuple [.int m, tL L1, tL L2, .int x, .int y])), some (.dat (tI (a :: t))), some (.dat (.int m)), some (.dat (tL L1)), some (.dat (tL L2)), some (.dat (.int x)), some (.dat (.int y)), none, none] = some (.int (atL (a :: t) 0)) := ix_at (a :: t) (k := 0) (by simp)
        have z1 : (gD 5) [some (.dat (.tuple [.int m, tL L1, tL L2, .int x, .int y])), some (.dat (tI (a :: t))), some (.dat (.int m)), some (.dat (tL L1)), some (.dat (tL L2)), some (.dat (.int x)), some (.dat (.int y)), none, none] = some (.int x) := rfl
        exact tb_eq ((b2_eq z0 z1).trans (ne_ii _ _))
    have f1 : (tb (b2 (b2 (gD 1) (b1 (fun _ => some (.int 1)) oNeg) oIx) (gD 6) (oEqD true))) [some (.dat (.tuple [.int m, tL L1, tL L2, .int x, .int y])), some (.dat (tI (a :: t))), some (.dat (.int m)), some (.dat (tL L1)), some (.dat (tL L2)), some (.dat (.int x)), some (.dat (.int y)), none, none] = some (!decide (atL (a :: t) ((a :: t).length - 1) = y)) := by
      have z : oIx (tI (a :: t)) (.int (-1)) = some (.int (atL (a :: t) ((a :: t).length - 1))) := ix_last (eI (a :: t)) _ (by
        have e := atL_some (l := a :: t) (k := (a :: t).length - 1) (by simp)
        rw [eI_len]
        unfold eI
        rw [List.getElem?_map, e]
        rfl)
      have z0 : (b2 (gD 1) (b1 (fun _ => some (.int 1)) oNeg) oIx) [some (.dat (.tuple [.int m, tL L1, tL L2, .int x, .int y])), some (.dat (tI (a :: t))), some (.dat (.int m)), some (.dat (tL L1)), some (.dat (tL L2)), some (.dat (.int x)), some (.dat (.int y)), none, none] = some (.int (atL (a :: t) ((a :: t).length - 1))) := z
      have z1 : (gD 6) [some (.dat (.tuple [.int m, tL L1, tL L2, .int x, .int y])), some (.dat (tI (a :: t))), some (.dat (.int m)), some (.dat (tL L1)), some (.dat (tL L2)), some (.dat (.int x)), some (.dat (.int y)), none, none] = some (.int y) := rfl
      exact tb_eq ((b2_eq z0 z1).trans (ne_ii _ _))
    have e2 := orT_eq f0 fun _ => f1
    by_cases hb : atL (a :: t) 0 ≠ x ∨ atL (a :: t) ((a :: t).length - 1) ≠ y
    · rw [if_pos hb]
      have : (!decide (atL (a :: t) 0 = x) || !decide (atL (a :: t) ((a :: t).length - 1) = y)) = true := by
        rcases hb with hb | hb
        · rw [decide_eq_false hb]; rfl
        · rw [decide_eq_false hb, Bool.not_false, Bool.or_true]
      rw [this] at e2
      exact seqS_rt ((ifS_t e2).trans rfl)
    · rw [if_neg hb]
      have hx : atL (a :: t) 0 = x := Classical.byContradiction fun z => hb (.inl z)
      have hy : atL (a :: t) ((a :: t).length - 1) = y := Classical.byContradiction fun z => hb (.inr z)
      rw [decide_eq_true hx, decide_eq_true hy] at e2
      refine (seqS_nx ((ifS_f e2).trans rfl)).trans (ret_eq ?_)
      unfold chainB
      refine all_enc (enc := PyData.int) (fun k => besB (L1 ++ L2) (atL (a :: t) k.toNat) (atL (a :: t) (k.toNat + 1))) (ksN ((a :: t).length - 1)) ?_ (by rw [ksN_len]; omega) fun k hk => ⟨_, rfl, ?_⟩
      · have hlen : ((((a :: t).length - 1 : Nat)) : Int) = (((a :: t).length : Nat) : Int) - 1 := by simp
        show ((iA1 [.int ((((eI (a :: t)).length : Nat) : Int) - 1)]).bind _) = _
        rw [eI_len]
        show (if rgOk (0, (((a :: t).length : Nat) : Int) - 1) = true then some (rgD 0 ((((a :: t).length : Nat) : Int) - 1)) else none) = _
        have : rgOk (0, (((a :: t).length : Nat) : Int) - 1) = true := by
          unfold rgOk
          rw [decide_eq_true_eq]
          exact ⟨by show (-1000 : Int) ≤ 0; decide, by show (0 : Int) ≤ 1000; decide, by show (-1000 : Int) ≤ (((a :: t).length : Nat) : Int) - 1; omega, by show (((a :: t).length : Nat) : Int) - 1 ≤ 1000; omega⟩
        rw [if_pos this, ← hlen, rgD_ks]
        rfl
      · obtain ⟨j, hj, rfl⟩ := ksN_mem hk
        have hj2 : j + 1 < (a :: t).length := by omega
        rw [Int.toNat_natCast]
        have z0 : (c1 (consA (b2 (gD 3) (gD 4) oAdd) (consA (b2 (gD 1) (gD 7) oIx) (consA (b2 (gD 1) (b2 (gD 7) (fun _ => some (.int 1)) oAdd) oIx) nilA))) F_are_beside) [some (.dat (.tuple [.int m, tL L1, tL L2, .int x, .int y])), some (.dat (tI (a :: t))), some (.dat (.int m)), some (.dat (tL L1)), some (.dat (tL L2)), some (.dat (.int x)), some (.dat (.int y)), some (.dat (.int (j : Int))), none] = F_are_beside [tL (L1 ++ L2), .int (atL (a :: t) j), .int (atL (a :: t) (j + 1))] := by
          refine c1_eq (consA_eq (cat_lots L1 L2 h.l1 h.l2) (consA_eq (ix_at (a :: t) (k := j) (by omega)) (consA_eq ?_ rfl)))
          have z := ix_at (a :: t) (k := j + 1) hj2
          exact z
        exact z0.trans (s_beside _ _ _ (by rw [List.length_append]; have := h.l1; have := h.l2; omega))
def sepB (s : List Int) (lot : List Int) : Bool := decide (((lot.filter fun t => decide (t ∈ s)).length : Int) ∈ [(0 : Int), (lot.length : Int)])
def ntB (L : List (List Int)) (x y : Int) (s : List Int) : Bool := (decide (x ∈ s) && !decide (y ∈ s)) && L.all (sepB s)
theorem s_not_together (h : Tw m L1 L2 x y) (s : List Int) (hs : SetOk m s) : F_takes_not_together [.tuple [.int m, tL L1, tL L2, .int x, .int y], tI s] = some (.bool (ntB (L1 ++ L2) x y s)) := by
  refine runS_rt rfl ((seqS_nx ((ifS_f (notT_f (tb_eq (s_two_lots h)))).trans rfl)).trans ((seqS_nx rfl).trans ?_))
  have q1 : (c1 (consA (gD 2) (consA (gD 1) nilA)) F_is_set_of) [some (.dat (.tuple [.int m, tL L1, tL L2, .int x, .int y])), some (.dat (tI s)), some (.dat (.int m)), some (.dat (tL L1)), some (.dat (tL L2)), some (.dat (.int x)), some (.dat (.int y)), none, none] = some (.bool true) := hs
  have q2 : (c1 (consA (gD 1) (consA (gD 5) (consA (gD 6) nilA))) F_parts_two) [some (.dat (.tuple [.int m, tL L1, tL L2, .int x, .int y])), some (.dat (tI s)), some (.dat (.int m)), some (.dat (tL L1)), some (.dat (tL L2)), some (.dat (.int x)), some (.dat (.int y)), none, none] = some (.bool (decide (x ∈ s) && !decide (y ∈ s))) := s_parts_two s x y
  have e1 := orT_eq (notT_f (tb_eq q1)) fun _ => notT_eq (tb_eq q2)
  unfold ntB
  cases hp : (decide (x ∈ s) && !decide (y ∈ s)) with
  | false =>
    rw [hp] at e1
    exact seqS_rt ((ifS_t e1).trans rfl)
  | true =>
    rw [hp] at e1
    refine (seqS_nx ((ifS_f e1).trans rfl)).trans (ret_eq ?_)
    rw [Bool.true_and]
    have hL : (L1 ++ L2).length ≤ 1000 := by rw [List.length_append]; have := h.l1; have := h.l2; omega
    refine all_enc (enc := fun s => tI s) (sepB s) (L1 ++ L2) (itT_eq (cat_lots L1 L2 h.l1 h.l2) (by rw [List.length_map]; exact hL)) hL fun lot hlot => ⟨_, rfl, ?_⟩
    have hll : lot.length ≤ 1000 := by
      rcases List.mem_append.mp hlot with z | z
      · have := h.s1 lot z; omega
      · have := h.s2 lot z; omega
    have e2 : (lcV (itT (gD 7)) (setN 8) (tb (b2 (gD 8) (gD 1) (oIn false))) (gD 8) [8]) [some (.dat (.tuple [.int m, tL L1, tL L2, .int x, .int y])), some (.dat (tI s)), some (.dat (.int m)), some (.dat (tL L1)), some (.dat (tL L2)), some (.dat (.int x)), some (.dat (.int y)), some (.dat (tI lot)), none] = some (eI (lot.filter fun t => decide (t ∈ s))) :=
      lcV_enc (enc := PyData.int) (fun t => decide (t ∈ s)) PyData.int lot (itT_eq rfl (by rw [List.length_map]; exact hll)) hll fun t _ => ⟨_, rfl, tb_eq (in_I false t s), fun _ => rfl⟩
    have e3 := c1_eq (o := oLen) (consA_eq (g := nilA) (ls_eq e2) rfl)
    have e4 : oLen [lI (lot.filter fun t => decide (t ∈ s))] = some (.int (((lot.filter fun t => decide (t ∈ s)).length : Nat) : Int)) := by
      show some (PyData.int (((eI _).length : Nat) : Int)) = _
      rw [eI_len]
    have e5 : (tupV (consA (fun _ => some (.int 0)) (consA (c1 (consA (gD 7) nilA) oLen) nilA))) [some (.dat (.tuple [.int m, tL L1, tL L2, .int x, .int y])), some (.dat (tI s)), some (.dat (.int m)), some (.dat (tL L1)), some (.dat (tL L2)), some (.dat (.int x)), some (.dat (.int y)), some (.dat (tI lot)), none] = some (tI [0, ((lot.length : Nat) : Int)]) := by
      show some (PyData.tuple [.int 0, .int (((eI lot).length : Nat) : Int)]) = _
      rw [eI_len]
      rfl
    exact (b2_eq (e3.trans e4) e5).trans (in_I false _ _)
end
end Qd
end
section
set_option Elab.async false
set_option linter.all false
set_option autoImplicit false
set_option maxRecDepth 100000
set_option maxHeartbeats 1000000
/-! P8: lots_right answers True. -/
namespace Qd
open PySem
open PySem.Spec
def kTog : KEnt := ⟨"together", 5, F_takes_together⟩
def kNot : KEnt := ⟨"not together", 5, F_takes_not_together⟩
theorem f_tog : (ktab.find? fun q => decide (q.word = ("together" : Str))) = some kTog := by kernel_rfl
theorem f_not : (ktab.find? fun q => decide (q.word = ("not together" : Str))) = some kNot := by kernel_rfl
theorem rows4_of (m : Nat) (h : m = 2 ∨ m = 3 ∨ m = 4) : F_law_rows_of [.int (m : Int), .int 4] = some (lTI (rowsN m 4)) := by
  rcases h with rfl | rfl | rfl
  · exact rows24
  · exact rows34
  · exact rows44
theorem rows4_ok (m : Nat) (h : m = 2 ∨ m = 3 ∨ m = 4) : (rowsN m 4).length ≤ 1000 ∧ ∀ l ∈ rowsN m 4, l.length ≤ 4 ∧ (l.all fun i => inR m i) = true := by
  rcases h with rfl | rfl | rfl <;> decide +kernel
section
variable {m : Nat} {L1 L2 : List (List Int)} {x y : Int}
theorem lay_tL (L : List (List Int)) : LayK 2 (tL L) := lay_tup fun d hd => by
  obtain ⟨s, _, rfl⟩ := List.mem_map.mp hd
  exact lay_tI s
abbrev nlo (m : Nat) (L1 L2 : List (List Int)) (x y : Int) (n6 n7 : Option En) : Nv := [some (.dat (.int (m : Int))), some (.dat (tL L1)), some (.dat (tL L2)), some (.dat (.int x)), some (.dat (.int y)), some (.dat (.tuple [.int (m : Int), tL L1, tL L2, .int x, .int y])), n6, n7, none, none]
theorem lots_right_eq (hm : m = 2 ∨ m = 3 ∨ m = 4) (h : Tw m L1 L2 x y) : F_law_lots_right [.int (m : Int), tL L1, tL L2, .int x, .int y] = some (.bool ((!(rowsN m 4).any (togB (L1 ++ L2) x y)) != !(setsN m).any (ntB (L1 ++ L2) x y))) := by
  have hr4 := rows4_ok m hm
  have ss := sets_len m hm
  have sh : ∀ w : Str, PyData.strOk w = true → SeqAt.shaped (.tuple (.str w :: [.int (m : Int), tL L1, tL L2, .int x, .int y])) = true := fun w hw => by
    refine LayK.sh (k := 3) (lay_tup fun d hd => ?_) (by decide)
    simp only [List.mem_cons, List.not_mem_nil, or_false] at hd
    rcases hd with rfl | rfl | rfl | rfl | rfl | rfl
    · exact lay_str 2 _ hw
    · exact lay_int 2 _
    · exact lay_tL L1
    · exact lay_tL L2
    · exact lay_int 2 _
    · exact lay_int 2 _
  have e1 : (lcV (itL (c1 (consA (gD 0) (consA (fun _ => some (.int 4)) nilA)) F_law_rows_of)) (setN 8) (tb (c1 (consA (b2 (tupV (consA (fun _ => some (.str "together")) nilA)) (gD 5) oAdd) (consA (gD 8) nilA)) F_holds)) (gD 8) [8]) (nlo m L1 L2 x y none none) = some (((rowsN m 4).filter (togB (L1 ++ L2) x y)).map fun s => tI s) := by
    refine lcV_enc (enc := fun s => tI s) (togB (L1 ++ L2) x y) (fun s => tI s) (rowsN m 4) (itL_eq (rows4_of m hm) (by rw [List.length_map]; exact hr4.1)) hr4.1 fun l hl => ⟨_, rfl, ?_, fun _ => rfl⟩
    exact tb_eq ((h_any (as := [.int (m : Int), tL L1, tL L2, .int x, .int y]) (p := tI l) f_tog rfl (sh _ (by kernel_rfl)) : F_holds [.tuple (.str "together" :: [.int (m : Int), tL L1, tL L2, .int x, .int y]), tI l] = _).trans (s_together h l (by have := (hr4.2 l hl).1; omega) (hr4.2 l hl).2))
  have e2 : ∀ n6 : D, (lcV (itL (c1 (consA (gD 0) nilA) F_law_sets_of)) (setN 9) (tb (c1 (consA (b2 (tupV (consA (fun _ => some (.str "not together")) nilA)) (gD 5) oAdd) (consA (gD 9) nilA)) F_holds)) (gD 9) [9]) (nlo m L1 L2 x y (some (.dat n6)) none) = some (((setsN m).filter (ntB (L1 ++ L2) x y)).map fun s => tI s) := fun n6 => by
    refine lcV_enc (enc := fun s => tI s) (ntB (L1 ++ L2) x y) (fun s => tI s) (setsN m) (itL_eq (sets_of m hm) (by rw [List.length_map]; exact ss)) ss fun s hs => ⟨_, rfl, ?_, fun _ => rfl⟩
    exact tb_eq ((h_any (as := [.int (m : Int), tL L1, tL L2, .int x, .int y]) (p := tI s) f_not rfl (sh _ (by kernel_rfl)) : F_holds [.tuple (.str "not together" :: [.int (m : Int), tL L1, tL L2, .int x, .int y]), tI s] = _).trans (s_not_together h s (ok_sets m hm s hs)))
  have shL : ∀ l : List (List Int), SeqAt.shaped (lTI l) = true := fun l => LayK.sh (k := 2) (lay_lst fun d hd => by
    obtain ⟨s, _, rfl⟩ := List.mem_map.mp hd
    exact lay_tI s) (by decide)
  refine runS_rt rfl ((seqS_nx rfl).trans ((seqS_nx (asg_eq (ls_eq e1))).trans ((seqS_nx (asg_eq (ls_eq (e2 _)))).trans (ret_eq ?_))))
  have z1 := eq_lnil false (((rowsN m 4).filter (togB (L1 ++ L2) x y)).map fun s => tI s) (shL _)
  have z2 := eq_lnil false (((setsN m).filter (ntB (L1 ++ L2) x y)).map fun s => tI s) (shL _)
  rw [List.isEmpty_map, filter_isEmpty] at z1 z2
  have y1 : (b2 (gD 6) (lsV (lstV nilA)) (oEqD false)) (nlo m L1 L2 x y (some (.dat (lTI ((rowsN m 4).filter (togB (L1 ++ L2) x y))))) (some (.dat (lTI ((setsN m).filter (ntB (L1 ++ L2) x y)))))) = some (.bool (!(rowsN m 4).any (togB (L1 ++ L2) x y))) := z1
  have y2 : (b2 (gD 7) (lsV (lstV nilA)) (oEqD false)) (nlo m L1 L2 x y (some (.dat (lTI ((rowsN m 4).filter (togB (L1 ++ L2) x y))))) (some (.dat (lTI ((setsN m).filter (ntB (L1 ++ L2) x y)))))) = some (.bool (!(setsN m).any (ntB (L1 ++ L2) x y))) := z2
  exact (b2_eq y1 y2).trans (ne_bb _ _)
/-! ### chain or set -/
structure Cov (m : Nat) (L : List (List Int)) : Prop where
  refl : ∀ a : Nat, a < m → besB L a a = true
  rng : ∀ lot ∈ L, ∀ t ∈ lot, inR m t = true
theorem besB_sym (L : List (List Int)) (a b : Int) : besB L a b = besB L b a := by
  unfold besB
  congr 1
  funext lot
  rw [Bool.and_comm]
theorem sep_two {s lot : List Int} (h : sepB s lot = true) {a b : Int} (ha : a ∈ lot) (hb : b ∈ lot) (hs : a ∈ s) : b ∈ s := by
  have h := of_decide_eq_true h
  have hp : 0 < (lot.filter fun t => decide (t ∈ s)).length := List.length_pos_of_mem (List.mem_filter.mpr ⟨ha, decide_eq_true hs⟩)
  rcases List.mem_cons.mp h with h | h
  · omega
  · have h := List.mem_singleton.mp h
    have e : (lot.filter fun t => decide (t ∈ s)).length = lot.length := by omega
    have := List.length_filter_eq_length_iff.mp e b hb
    exact of_decide_eq_true this
theorem bes_two {L : List (List Int)} {s : List Int} (hs : L.all (sepB s) = true) {a b : Int} (h : besB L a b = true) : (a ∈ s ↔ b ∈ s) := by
  obtain ⟨lot, hl, h⟩ := List.any_eq_true.mp h
  rw [Bool.and_eq_true, decide_eq_true_eq, decide_eq_true_eq] at h
  have hsep := List.all_eq_true.mp hs lot hl
  exact ⟨sep_two hsep h.1 h.2, sep_two hsep h.2 h.1⟩
theorem chain_xor {L : List (List Int)} (hm : m = 2 ∨ m = 3 ∨ m = 4) (hc : Cov m L) (hx : inR m x = true) (hy : inR m y = true) (hxy : x ≠ y) : (setsN m).any (ntB L x y) = !(rowsN m 4).any (togB L x y) := by
  have rng : ∀ {z : Int}, inR m z = true → ∃ k : Nat, k < m ∧ z = (k : Int) := fun {z} h => by
    unfold inR at h
    rw [Bool.and_eq_true, decide_eq_true_eq, decide_eq_true_eq] at h
    exact ⟨z.toNat, by omega, by omega⟩
  have m4 : m ≤ 4 := by rcases hm with rfl | rfl | rfl <;> decide
  cases hh : (rowsN m 4).any (togB L x y) with
  | true =>
    obtain ⟨l, _, hl⟩ := List.any_eq_true.mp hh
    refine (Bool.not_eq_true _).mp fun hp => ?_
    obtain ⟨s, _, hs⟩ := List.any_eq_true.mp hp
    unfold ntB at hs
    rw [Bool.and_eq_true, Bool.and_eq_true, decide_eq_true_eq, Bool.not_eq_true', decide_eq_false_iff_not] at hs
    unfold togB at hl
    by_cases h0 : l = []
    · rw [if_pos h0] at hl
      cases hl
    · rw [if_neg h0] at hl
      by_cases h1 : atL l 0 ≠ x ∨ atL l (l.length - 1) ≠ y
      · rw [if_pos h1] at hl
        cases hl
      · rw [if_neg h1] at hl
        have ex : atL l 0 = x := Classical.byContradiction fun z => h1 (.inl z)
        have ey : atL l (l.length - 1) = y := Classical.byContradiction fun z => h1 (.inr z)
        have key : ∀ k, k ≤ l.length - 1 → (atL l 0 ∈ s ↔ atL l k ∈ s) := by
          intro k
          induction k with
          | zero => exact fun _ => Iff.rfl
          | succ k ih =>
            intro hk
            have hb := List.all_eq_true.mp hl (k : Int) (List.mem_map.mpr ⟨k, List.mem_range.mpr (by omega), rfl⟩)
            rw [Int.toNat_natCast] at hb
            exact (ih (by omega)).trans (bes_two hs.2 hb)
        have := key _ (Nat.le_refl _)
        rw [ex, ey] at this
        exact hs.1.2 (this.mp hs.1.1)
  | false =>
    obtain ⟨x', hx', rfl⟩ := rng hx
    obtain ⟨y', hy', rfl⟩ := rng hy
    have hne : x' ≠ y' := fun z => hxy (by rw [z])
    obtain ⟨hk, _⟩ := mask_bits (besB L 0 1) (besB L 0 2) (besB L 0 3) (besB L 1 2) (besB L 1 3) (besB L 2 3)
    have AMr : ∀ {i j : Nat}, i < m → j < m → AM (maskM fun i j => besB L i j) i j = besB L i j := fun {i j} hi hj => by
      rw [AM_mask (A := fun i j => besB L (i : Int) (j : Int)) (fun i j => besB_sym L i j) (by omega) (by omega)]
      by_cases e : i = j
      · rw [e, hc.refl j hj, Bool.or_true]
      · rw [beq_eq_false_iff_ne.mpr e, Bool.false_or]
    rcases fin_at (k := maskM fun i j => besB L i j) hk hm hx' hy' hne with h | h
    · exfalso
      obtain ⟨a, ha, h⟩ := List.any_eq_true.mp h
      obtain ⟨b, hb, h⟩ := List.any_eq_true.mp h
      have ha := List.mem_range.mp ha
      have hb := List.mem_range.mp hb
      rw [Bool.and_eq_true, Bool.and_eq_true, AMr hx' ha, AMr ha hb, AMr hb hy'] at h
      have : (rowsN m 4).any (togB L x' y') = true := by
        refine List.any_eq_true.mpr ⟨[(x' : Int), a, b, y'], mem_rows m 4 _ (by simp) (fun i hi => ?_), ?_⟩
        · simp only [List.mem_cons, List.not_mem_nil, or_false] at hi
          rcases hi with rfl | rfl | rfl | rfl <;> omega
        · unfold togB
          rw [if_neg (by simp), if_neg (by simp [atL])]
          show ([(0 : Int), 1, 2].all fun k => besB L (atL [(x' : Int), a, b, y'] k.toNat) (atL [(x' : Int), a, b, y'] (k.toNat + 1))) = true
          show (besB L x' a && (besB L a b && (besB L b y' && true))) = true
          rw [h.1.1, h.1.2, h.2]
          rfl
      rw [this] at hh
      cases hh
    · obtain ⟨s, hs, h⟩ := List.any_eq_true.mp h
      rw [Bool.and_eq_true, Bool.and_eq_true] at h
      refine List.any_eq_true.mpr ⟨s, hs, ?_⟩
      unfold ntB
      rw [Bool.and_eq_true, Bool.and_eq_true]
      refine ⟨h.1, List.all_eq_true.mpr fun lot hlot => ?_⟩
      have same : ∀ a ∈ lot, ∀ b ∈ lot, (a ∈ s ↔ b ∈ s) := fun a ha b hb => by
        obtain ⟨i, hi, e1⟩ := rng (hc.rng lot hlot a ha)
        obtain ⟨j, hj, e2⟩ := rng (hc.rng lot hlot b hb)
        have hcl := List.all_eq_true.mp (List.all_eq_true.mp h.2 i (List.mem_range.mpr hi)) j (List.mem_range.mpr hj)
        rw [AMr hi hj] at hcl
        have ad : besB L (i : Int) (j : Int) = true := List.any_eq_true.mpr ⟨lot, hlot, by rw [← e1, ← e2, decide_eq_true ha, decide_eq_true hb]; rfl⟩
        rw [ad, Bool.not_true, Bool.false_or, beq_iff_eq] at hcl
        rw [e1, e2]
        constructor
        · intro z; rw [decide_eq_true z] at hcl; exact of_decide_eq_true hcl.symm
        · intro z; rw [decide_eq_true z] at hcl; exact of_decide_eq_true hcl
      unfold sepB
      rw [decide_eq_true_eq]
      cases lot with
      | nil => simp
      | cons a t =>
        by_cases ha : a ∈ s
        · have : ((a :: t).filter fun t => decide (t ∈ s)) = a :: t := List.filter_eq_self.mpr fun b hb => decide_eq_true ((same a List.mem_cons_self b hb).mp ha)
          rw [this]
          simp
        · have : ((a :: t).filter fun t => decide (t ∈ s)) = [] := List.filter_eq_nil_iff.mpr fun b hb z => ha ((same a List.mem_cons_self b hb).mpr (of_decide_eq_true z))
          rw [this]
          simp
theorem lots_right (hm : m = 2 ∨ m = 3 ∨ m = 4) (h : Tw m L1 L2 x y) (hc : Cov m (L1 ++ L2)) (hxy : x ≠ y) : F_law_lots_right [.int (m : Int), tL L1, tL L2, .int x, .int y] = some (.bool true) := by
  rw [lots_right_eq hm h, chain_xor hm hc h.x h.y hxy]
  cases (rowsN m 4).any (togB (L1 ++ L2) x y) <;> rfl
end
end Qd
end
section
set_option Elab.async false
set_option linter.all false
set_option autoImplicit false
set_option maxRecDepth 100000
set_option maxHeartbeats 0
/-! P9: the lots that two joins at most make: a finite check. -/
namespace Qd
open PySem
def decI : D → Option (List Int)
  | .tuple ds => intsD ds
  | _ => none
def decL : List D → Option (List (List Int))
  | [] => some []
  | d :: ds => (decI d).bind fun l => (decL ds).map (l :: ·)
theorem decL_some : ∀ {ds : List D} {L : List (List Int)}, decL ds = some L → ds = L.map fun s => tI s
  | [], L, h => by cases h; rfl
  | d :: ds, L, h => by
    obtain ⟨l, h1, h2⟩ := Option.bind_eq_some_iff.mp (show (decI d).bind (fun l => (decL ds).map (l :: ·)) = some L from h)
    obtain ⟨L', h3, rfl⟩ := Option.map_eq_some_iff.mp h2
    rw [decL_some h3]
    cases d <;> first | (cases h1; done) | skip
    rename_i es
    rw [intsD_some (show intsD es = some l from h1)]
    rfl
def isTru : Option D → Bool
  | some (.bool true) => true
  | _ => false
theorem isTru_ok {o : Option D} (h : isTru o = true) : o = some (.bool true) := by
  unfold isTru at h
  split at h
  · rfl
  · cases h
def lotsChk (m : Nat) (ds : List D) : Bool := match decL ds with
  | some L => isTru (F_are_lots [.int (m : Int), .tuple ds]) && ((List.range m).all fun a => besB L (a : Int) (a : Int)) && (L.all fun l => l.all fun i => inR m i) && decide (L.length ≤ 100) && L.all fun l => decide (l.length ≤ 100)
  | none => false
def byChk (m : Nat) (r : List (Int × Int)) : Bool := match F_law_lots_by [.int (m : Int), tP r] with
  | some (.list ds) => lotsChk m ds
  | _ => false
def prs (m : Nat) : List (Int × Int) := (List.range m).flatMap fun (a : Nat) => (List.range m).map fun (b : Nat) => ((a : Int), (b : Int))
def rws2 (m : Nat) : List (List (Int × Int)) := [] :: ((prs m).map fun p => [p]) ++ (prs m).flatMap fun p => (prs m).map fun q => [p, q]
theorem by2 : (rws2 2).all (byChk 2) = true := by kernel_rfl
theorem by3 : (rws2 3).all (byChk 3) = true := by kernel_rfl
theorem by4 : (rws2 4).all (byChk 4) = true := by kernel_rfl
theorem mem_prs {m : Nat} {p : Int × Int} (h : (inR m p.1 && inR m p.2) = true) : p ∈ prs m := by
  unfold inR at h
  rw [Bool.and_eq_true, Bool.and_eq_true, Bool.and_eq_true, decide_eq_true_eq, decide_eq_true_eq, decide_eq_true_eq, decide_eq_true_eq] at h
  obtain ⟨a, b⟩ := p
  have h : ((0 ≤ a ∧ a < m) ∧ 0 ≤ b ∧ b < m) := h
  have h1 := h.1.1
  have h2 := h.2.1
  refine List.mem_flatMap.mpr ⟨a.toNat, List.mem_range.mpr (by omega), List.mem_map.mpr ⟨b.toNat, List.mem_range.mpr (by omega), ?_⟩⟩
  rw [Int.toNat_of_nonneg h1, Int.toNat_of_nonneg h2]
theorem mem_rws2 {m : Nat} {r : List (Int × Int)} (hl : r.length ≤ 2) (h : (r.all fun p => inR m p.1 && inR m p.2) = true) : r ∈ rws2 m := by
  have hp : ∀ p ∈ r, p ∈ prs m := fun p hp => mem_prs (List.all_eq_true.mp h p hp)
  match r, hl with
  | [], _ => exact List.mem_append_left _ List.mem_cons_self
  | [p], _ => exact List.mem_append_left _ (List.mem_cons_of_mem _ (List.mem_map.mpr ⟨p, hp p (by simp), rfl⟩))
  | [p, q], _ => exact List.mem_append_right _ (List.mem_flatMap.mpr ⟨p, hp p (by simp), List.mem_map.mpr ⟨q, hp q (by simp), rfl⟩⟩)
  | _ :: _ :: _ :: _, hl => simp at hl
structure LotsGood (m : Nat) (L : List (List Int)) : Prop where
  ok : LotsOk (m : Int) L
  cov : Cov m L
  l : L.length ≤ 100
  s : ∀ l ∈ L, l.length ≤ 100
theorem lots_by {m : Nat} (hm : m = 2 ∨ m = 3 ∨ m = 4) {r : List (Int × Int)} (hl : r.length ≤ 2) (h : (r.all fun p => inR m p.1 && inR m p.2) = true) : ∃ L, F_law_lots_by [.int (m : Int), tP r] = some (lTI L) ∧ LotsGood m L := by
  have c : byChk m r = true := by
    rcases hm with rfl | rfl | rfl
    · exact List.all_eq_true.mp by2 r (mem_rws2 hl h)
    · exact List.all_eq_true.mp by3 r (mem_rws2 hl h)
    · exact List.all_eq_true.mp by4 r (mem_rws2 hl h)
  unfold byChk at c
  split at c
  · rename_i ds e
    unfold lotsChk at c
    split at c
    · rename_i L eL
      rw [Bool.and_eq_true, Bool.and_eq_true, Bool.and_eq_true, Bool.and_eq_true] at c
      obtain ⟨⟨⟨⟨c1, c2⟩, c3⟩, c4⟩, c5⟩ := c
      have ed := decL_some eL
      rw [ed] at e c1
      refine ⟨L, e, isTru_ok c1, ⟨fun a ha => List.all_eq_true.mp c2 a (List.mem_range.mpr ha), fun lot hlot t ht => List.all_eq_true.mp (List.all_eq_true.mp c3 lot hlot) t ht⟩, of_decide_eq_true c4, fun l hl => of_decide_eq_true (List.all_eq_true.mp c5 l hl)⟩
    · cases c
  · cases c
end Qd
end
section
set_option Elab.async false
set_option linter.all false
set_option autoImplicit false
set_option maxRecDepth 100000
set_option maxHeartbeats 1000000
/-! P10: tellings in plain words. -/
namespace Qd
open PySem
open PySem.Spec
abbrev Tl := Int × Int × Int
def eT (t : Tl) : D := .tuple [.int t.1, .int t.2.1, .int t.2.2]
abbrev tT (ts : List Tl) : D := .tuple (ts.map eT)
theorem ix3 (a b c : D) : oIx (.tuple [a, b, c]) (.int 0) = some a ∧ oIx (.tuple [a, b, c]) (.int 1) = some b ∧ oIx (.tuple [a, b, c]) (.int 2) = some c := ⟨rfl, rfl, rfl⟩
theorem s_is_telling (m : Int) (t : Tl) : F_is_telling [.int m, eT t] = some (.bool (inR m t.1 && inR m t.2.1)) := by
  refine runS_rt rfl ((seqS_nx ((ifS_f (orT_eq (a := false) (b := false) (notT_f (tb_eq ?_)) fun _ => tb_eq ?_)).trans rfl)).trans (ret_eq (andV_eq ?_ fun _ => ?_)))
  · rfl
  · rfl
  · exact s_is_thing_of m t.1
  · have z := andV_eq (f := c1 (consA (gD 0) (consA (b2 (gD 1) (fun _ => some (.int 1)) oIx) nilA)) F_is_thing_of) (g := c1 (consA (b2 (gD 1) (fun _ => some (.int 2)) oIx) nilA) F_is_whole) (ρ := [some (.dat (.int m)), some (.dat (eT t))]) (a := inR m t.2.1) (b := true) (s_is_thing_of m t.2.1) fun _ => s_is_whole t.2.2
    rw [Bool.and_true] at z
    exact z
theorem s_is_rest (rest : Int) (h1 : 2 ≤ rest) (h2 : rest ≤ 1000) : F_is_rest [.int rest] = some (.bool true) := by
  refine runS_rt rfl (ret_eq (andV_eq (a := true) (b := true) (s_is_whole rest) fun _ => ?_))
  have z1 : (b2 (gD 0) (fun _ => some (.int 0)) (oEqD false)) [some (.dat (.int rest))] = some (.bool (decide (rest = 0))) := eq_ii rest 0
  have z2 : (chV (fun _ => some (.int 2)) (gD 0) (fun _ => some (.int 1000)) (oB fun i j => decide (i ≤ j)) (oB fun i j => decide (i ≤ j))) [some (.dat (.int rest))] = some (.bool (decide (2 ≤ rest) && decide (rest ≤ 1000))) := ch_eq rfl rfl rfl rfl rfl
  have z := orV_eq z1 fun _ => z2
  rw [decide_eq_false (show ¬ rest = 0 by omega), decide_eq_true h1, decide_eq_true h2] at z
  exact z
structure Te (m rest : Int) (ts : List Tl) : Prop where
  m1 : 1 ≤ m
  m2 : m ≤ 40
  r1 : 2 ≤ rest
  r2 : rest ≤ 1000
  len : ts.length ≤ 3
  all : (ts.all fun t => inR m t.1 && inR m t.2.1) = true
section
variable {m rest : Int} {ts : List Tl}
theorem s_are_tellings (h : Te m rest ts) : F_are_tellings [.tuple [.int m, .int rest, tT ts]] = some (.bool true) := by
  have hl := h.len
  refine runS_rt rfl ((seqS_nx rfl).trans ((seqS_nx ((ifS_f (orT_eq (a := false) (b := false) (notT_f (tb_eq ?_)) fun _ => orT_eq (a := false) (b := false) (notT_f (tb_eq ?_)) fun _ => notT_f (tb_eq ?_))).trans rfl)).trans (ret_eq ?_)))
  · exact (s_is_many m).trans (by rw [decide_eq_true h.m1, decide_eq_true h.m2]; rfl)
  · exact s_is_rest rest h.r1 h.r2
  · rfl
  · rw [← h.all]
    exact all_enc (enc := eT) (fun t => inR m t.1 && inR m t.2.1) ts (itT_eq rfl (by rw [List.length_map]; omega)) (by omega) fun t _ => ⟨_, rfl, s_is_telling m t⟩
def ngB (rest v : Int) : Bool := decide (v % rest = 0)
theorem s_is_nought (h1 : 2 ≤ rest) (v : Int) : F_is_nought [.int rest, .int v] = some (.bool (ngB rest v)) := by
  have e : oIC cMod (fun i j => i % j) (.int v) (.int rest) = some (.int (v % rest)) := by
    show (if cMod v rest = true then some (PyData.int (v % rest)) else none) = _
    rw [if_pos (by unfold cMod; rw [decide_eq_true_eq]; omega)]
  have e2 : (b2 (b2 (gD 1) (gD 0) (oIC cMod fun i j => i % j)) (fun _ => some (.int 0)) (oEqD false)) [some (.dat (.int rest)), some (.dat (.int v))] = some (.bool (decide (v % rest = 0))) := by
    have z1 : (b2 (gD 1) (gD 0) (oIC cMod fun i j => i % j)) [some (.dat (.int rest)), some (.dat (.int v))] = some (.int (v % rest)) := e
    have z2 : (fun _ => some (.int 0) : Nv → Option D) [some (.dat (.int rest)), some (.dat (.int v))] = some (.int 0) := rfl
    exact (b2_eq z1 z2).trans (eq_ii _ _)
  have e3 : (b2 (gD 0) (fun _ => some (.int 0)) (oEqD true)) [some (.dat (.int rest)), some (.dat (.int v))] = some (.bool (!decide (rest = 0))) := ne_ii rest 0
  have e4 := andV_eq e3 fun _ => e2
  rw [decide_eq_false (show ¬ rest = 0 by omega), Bool.not_false, Bool.true_and] at e4
  refine runS_rt rfl (ret_eq ?_)
  have e5 : (b2 (gD 1) (fun _ => some (.int 0)) (oEqD false)) [some (.dat (.int rest)), some (.dat (.int v))] = some (.bool (decide (v = 0))) := eq_ii v 0
  refine (orV_eq e5 fun _ => e4).trans ?_
  unfold ngB
  by_cases hv : v = 0
  · rw [hv]
    simp
  · rw [decide_eq_false hv, Bool.false_or]
def fitB (rest : Int) (ts : List Tl) (p : List Int) : Bool := ts.all fun t => ngB rest (atL p t.2.1.toNat - atL p t.1.toNat - t.2.2)
theorem inR_nat {m z : Int} (h : inR m z = true) : 0 ≤ z ∧ z < m := by
  unfold inR at h
  rw [Bool.and_eq_true, decide_eq_true_eq, decide_eq_true_eq] at h
  exact h
theorem s_takes_fit (h : Te m rest ts) (p : List Int) (hp : (p.length : Int) = m) (hl : p.length ≤ 900) : F_takes_fit [.tuple [.int m, .int rest, tT ts], tI p] = some (.bool (fitB rest ts p)) := by
  have hts := h.len
  refine runS_rt rfl ((seqS_nx rfl).trans ?_)
  have e0 : (c1 (consA (gD 0) nilA) F_are_tellings) [some (.dat (.tuple [.int m, .int rest, tT ts])), some (.dat (tI p)), some (.dat (.int m)), some (.dat (.int rest)), some (.dat (tT ts)), none, none, none] = some (.bool true) := s_are_tellings h
  have e1 : (c1 (consA (gD 1) nilA) F_are_wholes) [some (.dat (.tuple [.int m, .int rest, tT ts])), some (.dat (tI p)), some (.dat (.int m)), some (.dat (.int rest)), some (.dat (tT ts)), none, none, none] = some (.bool true) := s_are_wholes p (by omega)
  have e2 : (b2 (c1 (consA (gD 1) nilA) oLen) (gD 2) (oEqD true)) [some (.dat (.tuple [.int m, .int rest, tT ts])), some (.dat (tI p)), some (.dat (.int m)), some (.dat (.int rest)), some (.dat (tT ts)), none, none, none] = some (.bool false) := by
    have z := ne_ii (((eI p).length : Nat) : Int) m
    rw [eI_len, hp, decide_eq_true rfl, Bool.not_true] at z
    have z1 : (c1 (consA (gD 1) nilA) oLen) [some (.dat (.tuple [.int m, .int rest, tT ts])), some (.dat (tI p)), some (.dat (.int m)), some (.dat (.int rest)), some (.dat (tT ts)), none, none, none] = some (.int m) := by
      show some (PyData.int (((eI p).length : Nat) : Int)) = _
      rw [eI_len, hp]
    have z2 : (gD 2) [some (.dat (.tuple [.int m, .int rest, tT ts])), some (.dat (tI p)), some (.dat (.int m)), some (.dat (.int rest)), some (.dat (tT ts)), none, none, none] = some (.int m) := rfl
    exact (b2_eq z1 z2).trans z
  refine (seqS_nx ((ifS_f (orT_eq (notT_f (tb_eq e0)) fun _ => orT_eq (notT_f (tb_eq e1)) fun _ => tb_eq e2)).trans rfl)).trans (ret_eq ?_)
  refine all_enc (enc := eT) (fun t => ngB rest (atL p t.2.1.toNat - atL p t.1.toNat - t.2.2)) ts (itT_eq rfl (by rw [List.length_map]; omega)) (by omega) fun t ht => ⟨_, rfl, ?_⟩
  have hr := List.all_eq_true.mp h.all t ht
  rw [Bool.and_eq_true] at hr
  have hx := inR_nat hr.1
  have hy := inR_nat hr.2
  have i1 : oIx (tI p) (.int t.1) = some (.int (atL p t.1.toNat)) := by
    have z := ix_at p (k := t.1.toNat) (by omega)
    rwa [Int.toNat_of_nonneg hx.1] at z
  have i2 : oIx (tI p) (.int t.2.1) = some (.int (atL p t.2.1.toNat)) := by
    have z := ix_at p (k := t.2.1.toNat) (by omega)
    rwa [Int.toNat_of_nonneg hy.1] at z
  have i3 : (b2 (b2 (b2 (gD 1) (gD 6) oIx) (b2 (gD 1) (gD 5) oIx) (oI fun i j => i - j)) (gD 7) (oI fun i j => i - j)) [some (.dat (.tuple [.int m, .int rest, tT ts])), some (.dat (tI p)), some (.dat (.int m)), some (.dat (.int rest)), some (.dat (tT ts)), some (.dat (.int t.1)), some (.dat (.int t.2.1)), some (.dat (.int t.2.2))] = some (.int (atL p t.2.1.toNat - atL p t.1.toNat - t.2.2)) := by
    have a1 : (b2 (gD 1) (gD 6) oIx) [some (.dat (.tuple [.int m, .int rest, tT ts])), some (.dat (tI p)), some (.dat (.int m)), some (.dat (.int rest)), some (.dat (tT ts)), some (.dat (.int t.1)), some (.dat (.int t.2.1)), some (.dat (.int t.2.2))] = some (.int (atL p t.2.1.toNat)) := i2
    have a2 : (b2 (gD 1) (gD 5) oIx) [some (.dat (.tuple [.int m, .int rest, tT ts])), some (.dat (tI p)), some (.dat (.int m)), some (.dat (.int rest)), some (.dat (tT ts)), some (.dat (.int t.1)), some (.dat (.int t.2.1)), some (.dat (.int t.2.2))] = some (.int (atL p t.1.toNat)) := i1
    have a3 := b2_eq (o := oI fun i j => i - j) a1 a2
    exact (b2_eq (g := gD 7) (o := oI fun i j => i - j) a3 rfl).trans rfl
  exact (c1_eq (consA_eq (g := consA (b2 (b2 (b2 (gD 1) (gD 6) oIx) (b2 (gD 1) (gD 5) oIx) (oI fun i j => i - j)) (gD 7) (oI fun i j => i - j)) nilA) (f := gD 3) rfl (consA_eq (g := nilA) i3 rfl))).trans (s_is_nought h.r1 _)
end
end Qd
end
section
set_option Elab.async false
set_option linter.all false
set_option autoImplicit false
set_option maxRecDepth 100000
set_option maxHeartbeats 1000000
/-! P11: roads through tellings in plain words. -/
namespace Qd
open PySem
open PySem.Spec
def StOk (n : Nat) (p : Int × Int) : Prop := (0 ≤ p.1 ∧ p.1 < n) ∧ (p.2 = 1 ∨ p.2 = -1)
section
variable {m rest : Int} {ts : List Tl}
abbrev gRoad : Gs := ifS (orT (notT (tb (c1 (consA (gD 2) nilA) F_are_wholes))) (orT (tb (b2 (c1 (consA (gD 2) nilA) oLen) (fun _ => some (.int 2)) (oEqD true))) (orT (notT (tb (chV (fun _ => some (.int 0)) (b2 (gD 2) (fun _ => some (.int 0)) oIx) (c1 (consA (gD 0) nilA) oLen) (oB fun i j => decide (i ≤ j)) (oB fun i j => decide (i < j))))) (tb (b2 (b2 (gD 2) (fun _ => some (.int 1)) oIx) (tupV (consA (fun _ => some (.int 1)) (consA (b1 (fun _ => some (.int 1)) oNeg) nilA))) (oIn true)))))) (retS (fun _ => some (.bool false))) nextS
theorem s_is_road (l : List (Int × Int)) (hl : l.length ≤ 900) (h : ∀ p ∈ l, StOk ts.length p) : F_is_road [tT ts, tP l] = some (.bool true) := by
  have key : ∀ (k : List (Int × Int)) (n2 : Option En), (∀ p ∈ k, StOk ts.length p) → ∃ n2', foS (setN 2) gRoad (k.map eP) [some (.dat (tT ts)), some (.dat (tP l)), n2] = some (.nx [some (.dat (tT ts)), some (.dat (tP l)), n2']) := by
    intro k
    induction k with
    | nil => exact fun n2 _ => ⟨n2, rfl⟩
    | cons p k ih =>
      intro n2 hk
      have hp := hk p List.mem_cons_self
      have e1 : (c1 (consA (gD 2) nilA) F_are_wholes) [some (.dat (tT ts)), some (.dat (tP l)), some (.dat (eP p))] = some (.bool true) := s_are_wholes [p.1, p.2] (by simp)
      have e2 : (b2 (c1 (consA (gD 2) nilA) oLen) (fun _ => some (.int 2)) (oEqD true)) [some (.dat (tT ts)), some (.dat (tP l)), some (.dat (eP p))] = some (.bool false) := by rfl
      have e3 : (chV (fun _ => some (.int 0)) (b2 (gD 2) (fun _ => some (.int 0)) oIx) (c1 (consA (gD 0) nilA) oLen) (oB fun i j => decide (i ≤ j)) (oB fun i j => decide (i < j))) [some (.dat (tT ts)), some (.dat (tP l)), some (.dat (eP p))] = some (.bool (decide (0 ≤ p.1) && decide (p.1 < (((ts.map eT).length : Nat) : Int)))) := ch_eq rfl rfl rfl rfl rfl
      rw [List.length_map, decide_eq_true hp.1.1, decide_eq_true hp.1.2] at e3
      have e4 : (b2 (b2 (gD 2) (fun _ => some (.int 1)) oIx) (tupV (consA (fun _ => some (.int 1)) (consA (b1 (fun _ => some (.int 1)) oNeg) nilA))) (oIn true)) [some (.dat (tT ts)), some (.dat (tP l)), some (.dat (eP p))] = some (.bool (!decide (p.2 ∈ [(1 : Int), -1]))) := in_I true p.2 [1, -1]
      rw [decide_eq_true (show p.2 ∈ [(1 : Int), -1] by rcases hp.2 with z | z <;> rw [z] <;> simp)] at e4
      have st : gRoad [some (.dat (tT ts)), some (.dat (tP l)), some (.dat (eP p))] = some (.nx [some (.dat (tT ts)), some (.dat (tP l)), some (.dat (eP p))]) :=
        (ifS_f (orT_eq (notT_f (tb_eq e1)) fun _ => orT_eq (tb_eq e2) fun _ => orT_eq (notT_f (tb_eq e3)) fun _ => tb_eq e4)).trans rfl
      obtain ⟨n', e⟩ := ih (some (.dat (eP p))) fun q hq => hk q (List.mem_cons_of_mem _ hq)
      exact ⟨n', (foS_cons rfl st).trans e⟩
  obtain ⟨n', e⟩ := key l none h
  refine runS_rt rfl ((seqS_nx ((ifS_f (notT_f (tb_eq ?_))).trans rfl)).trans ((seqS_nx ((forS_eq (itT_eq (ds := l.map eP) rfl (by rw [List.length_map]; omega))).trans e)).trans rfl))
  rfl
def endT (ts : List Tl) : List (Int × Int) → Int → Int → Option (Int × Int)
  | [], h, t => some (h, t)
  | p :: l, h, t => match ts[p.1.toNat]? with
    | some u => if h = (if p.2 = -1 then u.2.1 else u.1) then endT ts l (if p.2 = -1 then u.1 else u.2.1) (t + p.2 * u.2.2) else none
    | none => none
def endTD : Option (Int × Int) → D
  | some q => .tuple [.int q.1, .int q.2]
  | none => .none
theorem mul_sg {s d : Int} (h : s = 1 ∨ s = -1) : oMul (.int s) (.int d) = some (.int (s * d)) := by
  show (if cMul s d = true then some (PyData.int (s * d)) else none) = _
  rw [if_pos]
  unfold cMul
  rw [decide_eq_true_eq]
  left
  rcases h with h | h <;> rw [h] <;> decide
abbrev gEnd : Gs := seqS (asgS (b2 (gD 0) (gD 5) oIx) (tupG 3 (consG (setN 7) (consG (setN 8) (consG (setN 9) nilG))))) (seqS (ifS (tb (b2 (gD 6) (b1 (fun _ => some (.int 1)) oNeg) (oEqD false))) (parS 7 8 (gD 8) (gD 7)) nextS) (seqS (ifS (tb (b2 (gD 3) (gD 7) (oEqD true))) (retS (fun _ => some .none)) nextS) (seqS (asgS (gD 8) (setN 3)) (augS 4 (b2 (gD 6) (gD 9) oMul) (oI fun i j => i + j)))))
theorem s_road_end (l : List (Int × Int)) (start : Int) (hl : l.length ≤ 900) (h : ∀ p ∈ l, StOk ts.length p) : F_road_end [tT ts, tP l, .int start] = some (endTD (endT ts l start 0)) := by
  have key : ∀ (k : List (Int × Int)) (hh t : Int) (n5 n6 n7 n8 n9 : Option En), (∀ p ∈ k, StOk ts.length p) → seqS (foS (tupG 2 (consG (setN 5) (consG (setN 6) nilG))) gEnd (k.map eP)) (retS (tupV (consA (gD 3) (consA (gD 4) nilA)))) [some (.dat (tT ts)), some (.dat (tP l)), some (.dat (.int start)), some (.dat (.int hh)), some (.dat (.int t)), n5, n6, n7, n8, n9] = some (.rt (endTD (endT ts k hh t))) := by
    intro k
    induction k with
    | nil =>
      intro hh t n5 n6 n7 n8 n9 _
      exact (seqS_nx rfl).trans rfl
    | cons p k ih =>
      intro hh t n5 n6 n7 n8 n9 hk
      have hp := hk p List.mem_cons_self
      have hlt : p.1.toNat < ts.length := by have := hp.1; omega
      have ht : ts[p.1.toNat]? = some ts[p.1.toNat] := List.getElem?_eq_getElem hlt
      show _ = some (Out.rt (endTD (match ts[p.1.toNat]? with
        | some u => if hh = (if p.2 = -1 then u.2.1 else u.1) then endT ts k (if p.2 = -1 then u.1 else u.2.1) (t + p.2 * u.2.2) else none
        | none => none)))
      rw [ht]
      show _ = some (Out.rt (endTD (if hh = (if p.2 = -1 then ts[p.1.toNat].2.1 else ts[p.1.toNat].1) then endT ts k (if p.2 = -1 then ts[p.1.toNat].1 else ts[p.1.toNat].2.1) (t + p.2 * ts[p.1.toNat].2.2) else none)))
      generalize ts[p.1.toNat] = u at ht
      have e1 : oIx (tT ts) (.int p.1) = some (eT u) := by
        have z := ix_nat (ts.map eT) p.1.toNat (eT u) (by rw [List.getElem?_map, ht]; rfl)
        rwa [Int.toNat_of_nonneg hp.1.1] at z
      have g1 : (asgS (b2 (gD 0) (gD 5) oIx) (tupG 3 (consG (setN 7) (consG (setN 8) (consG (setN 9) nilG))))) [some (.dat (tT ts)), some (.dat (tP l)), some (.dat (.int start)), some (.dat (.int hh)), some (.dat (.int t)), some (.dat (.int p.1)), some (.dat (.int p.2)), n7, n8, n9] = some (.nx [some (.dat (tT ts)), some (.dat (tP l)), some (.dat (.int start)), some (.dat (.int hh)), some (.dat (.int t)), some (.dat (.int p.1)), some (.dat (.int p.2)), some (.dat (.int u.1)), some (.dat (.int u.2.1)), some (.dat (.int u.2.2))]) := by
        show ((oIx (tT ts) (.int p.1)).bind _) = _
        rw [e1]
        rfl
      have c1' : (tb (b2 (gD 6) (b1 (fun _ => some (.int 1)) oNeg) (oEqD false))) [some (.dat (tT ts)), some (.dat (tP l)), some (.dat (.int start)), some (.dat (.int hh)), some (.dat (.int t)), some (.dat (.int p.1)), some (.dat (.int p.2)), some (.dat (.int u.1)), some (.dat (.int u.2.1)), some (.dat (.int u.2.2))] = some (decide (p.2 = -1)) := tb_eq (eq_ii p.2 (-1))
      -- after the turn
      have turn : (ifS (tb (b2 (gD 6) (b1 (fun _ => some (.int 1)) oNeg) (oEqD false))) (parS 7 8 (gD 8) (gD 7)) nextS) [some (.dat (tT ts)), some (.dat (tP l)), some (.dat (.int start)), some (.dat (.int hh)), some (.dat (.int t)), some (.dat (.int p.1)), some (.dat (.int p.2)), some (.dat (.int u.1)), some (.dat (.int u.2.1)), some (.dat (.int u.2.2))] =
          some (.nx [some (.dat (tT ts)), some (.dat (tP l)), some (.dat (.int start)), some (.dat (.int hh)), some (.dat (.int t)), some (.dat (.int p.1)), some (.dat (.int p.2)), some (.dat (.int (if p.2 = -1 then u.2.1 else u.1))), some (.dat (.int (if p.2 = -1 then u.1 else u.2.1))), some (.dat (.int u.2.2))]) := by
        by_cases hs : p.2 = -1
        · rw [decide_eq_true hs] at c1'
          rw [if_pos hs, if_pos hs]
          exact (ifS_t c1').trans rfl
        · rw [decide_eq_false hs] at c1'
          rw [if_neg hs, if_neg hs]
          exact (ifS_f c1').trans rfl
      have c2 : (tb (b2 (gD 3) (gD 7) (oEqD true))) [some (.dat (tT ts)), some (.dat (tP l)), some (.dat (.int start)), some (.dat (.int hh)), some (.dat (.int t)), some (.dat (.int p.1)), some (.dat (.int p.2)), some (.dat (.int (if p.2 = -1 then u.2.1 else u.1))), some (.dat (.int (if p.2 = -1 then u.1 else u.2.1))), some (.dat (.int u.2.2))] = some (!decide (hh = (if p.2 = -1 then u.2.1 else u.1))) := tb_eq (ne_ii hh _)
      by_cases hb : hh = (if p.2 = -1 then u.2.1 else u.1)
      · rw [decide_eq_true hb] at c2
        rw [if_pos hb]
        have g4 : (augS 4 (b2 (gD 6) (gD 9) oMul) (oI fun i j => i + j)) [some (.dat (tT ts)), some (.dat (tP l)), some (.dat (.int start)), some (.dat (.int (if p.2 = -1 then u.1 else u.2.1))), some (.dat (.int t)), some (.dat (.int p.1)), some (.dat (.int p.2)), some (.dat (.int (if p.2 = -1 then u.2.1 else u.1))), some (.dat (.int (if p.2 = -1 then u.1 else u.2.1))), some (.dat (.int u.2.2))] =
            some (.nx [some (.dat (tT ts)), some (.dat (tP l)), some (.dat (.int start)), some (.dat (.int (if p.2 = -1 then u.1 else u.2.1))), some (.dat (.int (t + p.2 * u.2.2))), some (.dat (.int p.1)), some (.dat (.int p.2)), some (.dat (.int (if p.2 = -1 then u.2.1 else u.1))), some (.dat (.int (if p.2 = -1 then u.1 else u.2.1))), some (.dat (.int u.2.2))]) := by
          show ((oMul (.int p.2) (.int u.2.2)).bind fun y => (oI (fun i j => i + j) (.int t) y).map _) = _
          rw [mul_sg hp.2]
          rfl
        have st : gEnd [some (.dat (tT ts)), some (.dat (tP l)), some (.dat (.int start)), some (.dat (.int hh)), some (.dat (.int t)), some (.dat (.int p.1)), some (.dat (.int p.2)), n7, n8, n9] = _ := (seqS_nx g1).trans ((seqS_nx turn).trans ((seqS_nx ((ifS_f c2).trans rfl)).trans ((seqS_nx rfl).trans g4)))
        exact (seqS_for (d := eP p) rfl st).trans (ih _ _ _ _ _ _ _ fun q hq => hk q (List.mem_cons_of_mem _ hq))
      · rw [decide_eq_false hb] at c2
        rw [if_neg hb]
        have st : gEnd [some (.dat (tT ts)), some (.dat (tP l)), some (.dat (.int start)), some (.dat (.int hh)), some (.dat (.int t)), some (.dat (.int p.1)), some (.dat (.int p.2)), n7, n8, n9] = some (.rt .none) := (seqS_nx g1).trans ((seqS_nx turn).trans (seqS_rt ((ifS_t c2).trans rfl)))
        exact seqS_rt (foS_rt (d := eP p) rfl st)
  refine runS_rt rfl ((seqS_nx rfl).trans ((seqS_nx rfl).trans ?_))
  have k0 := key l start 0 none none none none none h
  unfold seqS at k0 ⊢
  rw [forS_eq (itT_eq (ds := l.map eP) rfl (by rw [List.length_map]; omega))]
  exact k0
def clB (rest : Int) (ts : List Tl) (l : List (Int × Int)) : Bool := match l with
  | [] => false
  | p :: _ => match ts[p.1.toNat]? with
    | some u => (match endT ts l (if p.2 = 1 then u.1 else u.2.1) 0 with
      | some q => decide (q.1 = if p.2 = 1 then u.1 else u.2.1) && !ngB rest q.2
      | none => false)
    | none => false
end
end Qd
end
section
set_option Elab.async false
set_option linter.all false
set_option autoImplicit false
set_option maxRecDepth 100000
set_option maxHeartbeats 1000000
/-! P12: tellings_right in plain words. -/
namespace Qd
open PySem
open PySem.Spec
section
variable {m rest : Int} {ts : List Tl}
abbrev nc (m rest : Int) (ts : List Tl) (l : List (Int × Int)) (n2 n3 n7 n8 : Option En) : Nv := [some (.dat (.tuple [.int m, .int rest, tT ts])), some (.dat (tP l)), n2, n3, some (.dat (.int m)), some (.dat (.int rest)), some (.dat (tT ts)), n7, n8]
theorem eq_tPnil (l : List (Int × Int)) : oEqD false (tP l) (.tuple []) = some (.bool l.isEmpty) := by
  have h := (lay_tP l).sh (by decide)
  unfold oEqD
  rw [h]
  cases l with
  | nil => rfl
  | cons a l =>
    have e : PyData.eqv (tP (a :: l)) (.tuple []) = false := by simp [PyData.eqv, PyData.eqvAll]
    rw [e]
    rfl
theorem s_takes_clash (h : Te m rest ts) (l : List (Int × Int)) (hl : l.length ≤ 900) (hs : ∀ p ∈ l, StOk ts.length p) : F_takes_clash [.tuple [.int m, .int rest, tT ts], tP l] = some (.bool (clB rest ts l)) := by
  refine runS_rt rfl ((seqS_nx (ρ' := nc m rest ts l none none none none) rfl).trans ?_)
  have e0 : (c1 (consA (gD 0) nilA) F_are_tellings) (nc m rest ts l none none none none) = some (.bool true) := s_are_tellings h
  have e1 : (c1 (consA (gD 6) (consA (gD 1) nilA)) F_is_road) (nc m rest ts l none none none none) = some (.bool true) := s_is_road l hl hs
  have e2 : (b2 (gD 1) (tupV nilA) (oEqD false)) (nc m rest ts l none none none none) = some (.bool l.isEmpty) := eq_tPnil l
  have e3 := orT_eq (notT_f (tb_eq e0)) fun _ => orT_eq (notT_f (tb_eq e1)) fun _ => tb_eq e2
  cases l with
  | nil => exact seqS_rt ((ifS_t e3).trans rfl)
  | cons p l =>
    refine (seqS_nx ((ifS_f e3).trans rfl)).trans ?_
    have hp := hs p List.mem_cons_self
    have hlt : p.1.toNat < ts.length := by have := hp.1; omega
    have ht : ts[p.1.toNat]? = some ts[p.1.toNat] := List.getElem?_eq_getElem hlt
    show _ = some (Out.rt (.bool (match ts[p.1.toNat]? with
      | some u => (match endT ts (p :: l) (if p.2 = 1 then u.1 else u.2.1) 0 with
        | some q => decide (q.1 = if p.2 = 1 then u.1 else u.2.1) && !ngB rest q.2
        | none => false)
      | none => false)))
    rw [ht]
    show _ = some (Out.rt (.bool (match endT ts (p :: l) (if p.2 = 1 then ts[p.1.toNat].1 else ts[p.1.toNat].2.1) 0 with
        | some q => decide (q.1 = if p.2 = 1 then ts[p.1.toNat].1 else ts[p.1.toNat].2.1) && !ngB rest q.2
        | none => false)))
    generalize ts[p.1.toNat] = u at ht
    have i1 : oIx (tT ts) (.int p.1) = some (eT u) := by
      have z := ix_nat (ts.map eT) p.1.toNat (eT u) (by rw [List.getElem?_map, ht]; rfl)
      rwa [Int.toNat_of_nonneg hp.1.1] at z
    have a1 : (asgS (b2 (gD 1) (fun _ => some (.int 0)) oIx) (tupG 2 (consG (setN 7) (consG (setN 8) nilG)))) (nc m rest ts (p :: l) none none none none) = some (.nx (nc m rest ts (p :: l) none none (some (.dat (.int p.1))) (some (.dat (.int p.2))))) := by
      show ((oIx (.tuple (eP p :: l.map eP)) (.int 0)).bind _) = _
      rw [ix0]
      rfl
    refine (seqS_nx a1).trans ?_
    have cs : (tb (b2 (gD 8) (fun _ => some (.int 1)) (oEqD false))) (nc m rest ts (p :: l) none none (some (.dat (.int p.1))) (some (.dat (.int p.2)))) = some (decide (p.2 = 1)) := tb_eq (eq_ii p.2 1)
    have st : (ifV (tb (b2 (gD 8) (fun _ => some (.int 1)) (oEqD false))) (b2 (b2 (gD 6) (gD 7) oIx) (fun _ => some (.int 0)) oIx) (b2 (b2 (gD 6) (gD 7) oIx) (fun _ => some (.int 1)) oIx)) (nc m rest ts (p :: l) none none (some (.dat (.int p.1))) (some (.dat (.int p.2)))) = some (.int (if p.2 = 1 then u.1 else u.2.1)) := by
      unfold ifV
      rw [cs, Option.bind_some]
      have j1 : (b2 (gD 6) (gD 7) oIx) (nc m rest ts (p :: l) none none (some (.dat (.int p.1))) (some (.dat (.int p.2)))) = some (eT u) := i1
      by_cases hq : p.2 = 1
      · rw [decide_eq_true hq, if_pos rfl, if_pos hq]
        exact (b2_eq (g := fun _ => some (.int 0)) (o := oIx) j1 rfl).trans rfl
      · rw [decide_eq_false hq, if_neg (by simp), if_neg hq]
        exact (b2_eq (g := fun _ => some (.int 1)) (o := oIx) j1 rfl).trans rfl
    refine (seqS_nx (asg_eq st)).trans ?_
    generalize (if p.2 = 1 then u.1 else u.2.1) = w
    have en : (c1 (consA (gD 6) (consA (gD 1) (consA (gD 2) nilA))) F_road_end) (nc m rest ts (p :: l) (some (.dat (.int w))) none (some (.dat (.int p.1))) (some (.dat (.int p.2)))) = some (endTD (endT ts (p :: l) w 0)) := s_road_end (p :: l) w hl hs
    refine (seqS_nx (asg_eq en)).trans (ret_eq ?_)
    cases he : endT ts (p :: l) w 0 with
    | none =>
      have z : (b2 (gD 3) (fun _ => some .none) (oIsN true)) (nc m rest ts (p :: l) (some (.dat (.int w))) (some (.dat (endTD none))) (some (.dat (.int p.1))) (some (.dat (.int p.2)))) = some (.bool false) := rfl
      exact andV_eq (b := false) z fun zz => absurd zz (by decide)
    | some q =>
      have z : (b2 (gD 3) (fun _ => some .none) (oIsN true)) (nc m rest ts (p :: l) (some (.dat (.int w))) (some (.dat (endTD (some q)))) (some (.dat (.int p.1))) (some (.dat (.int p.2)))) = some (.bool true) := rfl
      have z1 : (b2 (b2 (gD 3) (fun _ => some (.int 0)) oIx) (gD 2) (oEqD false)) (nc m rest ts (p :: l) (some (.dat (.int w))) (some (.dat (endTD (some q)))) (some (.dat (.int p.1))) (some (.dat (.int p.2)))) = some (.bool (decide (q.1 = w))) := eq_ii q.1 w
      have z2 : (c1 (consA (gD 5) (consA (b2 (gD 3) (fun _ => some (.int 1)) oIx) nilA)) F_is_nought) (nc m rest ts (p :: l) (some (.dat (.int w))) (some (.dat (endTD (some q)))) (some (.dat (.int p.1))) (some (.dat (.int p.2)))) = some (.bool (ngB rest q.2)) := s_is_nought h.r1 q.2
      have z3 := andV_eq z fun _ => andV_eq z1 fun _ => notV_eq z2
      exact z3
/-! ### the law's def -/
def stepsN (n : Nat) : List (Int × Int) := (ksN n).flatMap fun k => [(k, 1), (k, -1)]
def stAt (n : Nat) (k : Int) : Int × Int := (stepsN n).getD k.toNat (0, 1)
def roadOf (n : Nat) (l : List Int) : List (Int × Int) := l.map (stAt n)
abbrev nt (m rest : Int) (ts : List Tl) (nums fits : List (List Int)) (steps : List (Int × Int)) (n6 : Option En) (cl : List D) (n8 n9 : Option En) : Nv :=
  [some (.dat (.int m)), some (.dat (.int rest)), some (.dat (tT ts)), some (.dat (lTI nums)), some (.dat (lTI fits)), some (.dat (.list (steps.map eP))), n6, some (.own cl), n8, n9]
theorem steps_ok (n : Nat) (hn : n ≤ 3) : (stepsN n).length = 2 * n ∧ (∀ p ∈ stepsN n, 0 ≤ p.1 ∧ p.1 < n ∧ (p.2 = 1 ∨ p.2 = -1)) := by
  match n, hn with
  | 0, _ => decide
  | 1, _ => decide
  | 2, _ => decide
  | 3, _ => decide
  | n + 4, h => omega
def kClash : KEnt := ⟨"clash", 3, F_takes_clash⟩
def kFit : KEnt := ⟨"fit", 3, F_takes_fit⟩
theorem f_clash : (ktab.find? fun q => decide (q.word = ("clash" : Str))) = some kClash := by kernel_rfl
theorem f_fit : (ktab.find? fun q => decide (q.word = ("fit" : Str))) = some kFit := by kernel_rfl
theorem lay_tT (ts : List Tl) : LayK 2 (tT ts) := lay_tup fun d hd => by
  obtain ⟨t, _, rfl⟩ := List.mem_map.mp hd
  exact lay_tup fun d hd => by
    simp only [List.mem_cons, List.not_mem_nil, or_false] at hd
    rcases hd with rfl | rfl | rfl
    · exact lay_int 0 _
    · exact lay_int 0 _
    · exact lay_int 0 _
theorem sh_tell (w : Str) (hw : PyData.strOk w = true) : SeqAt.shaped (.tuple (.str w :: [.int m, .int rest, tT ts])) = true := by
  refine LayK.sh (k := 3) (lay_tup fun d hd => ?_) (by decide)
  simp only [List.mem_cons, List.not_mem_nil, or_false] at hd
  rcases hd with rfl | rfl | rfl | rfl
  · exact lay_str 2 _ hw
  · exact lay_int 2 _
  · exact lay_int 2 _
  · exact lay_tT ts
abbrev gCl : Gs := seqS (asgS (c1 (consA (lsV (lcV (itT (gD 8)) (setN 6) yesT (b2 (gD 5) (gD 6) oIx) [6])) nilA) oTupOf) (setN 9)) (ifS (tb (c1 (consA (tupV (consA (fun _ => some (.str "clash")) (consA (gD 0) (consA (gD 1) (consA (gD 2) nilA))))) (consA (gD 9) nilA)) F_holds)) (appS 7 (gD 9)) nextS)
theorem clash_loop (h : Te m rest ts) (nums fits : List (List Int)) : ∀ (rs : List (List Int)) (n6 n8 n9 : Option En) (cl : List D), (∀ l ∈ rs, l.length ≤ 900 ∧ ∀ k ∈ l, 0 ≤ k ∧ k < 2 * (ts.length : Int)) → cl.length + rs.length ≤ 2000 →
    ∃ n8' n9', foS (setN 8) gCl (rs.map fun l => tI l) (nt m rest ts nums fits (stepsN ts.length) n6 cl n8 n9) = some (.nx (nt m rest ts nums fits (stepsN ts.length) n6 (cl ++ (rs.filter fun l => clB rest ts (roadOf ts.length l)).map fun l => tP (roadOf ts.length l)) n8' n9'))
  | [], n6, n8, n9, cl, _, _ => ⟨n8, n9, by rw [List.filter_nil]; show _ = some (Out.nx (nt m rest ts nums fits (stepsN ts.length) n6 (cl ++ []) n8 n9)); rw [List.append_nil]; rfl⟩
  | l :: rs, n6, n8, n9, cl, hr, hlen => by
    rw [List.length_cons] at hlen
    obtain ⟨hl, hk⟩ := hr l List.mem_cons_self
    have so := steps_ok ts.length h.len
    have rd : ∀ p ∈ roadOf ts.length l, StOk ts.length p := fun p hp => by
      obtain ⟨k, hk2, rfl⟩ := List.mem_map.mp hp
      have := hk k hk2
      have hlt : k.toNat < (stepsN ts.length).length := by rw [so.1]; omega
      have e : stAt ts.length k = (stepsN ts.length)[k.toNat] := by
        unfold stAt
        rw [List.getD_eq_getElem?_getD, List.getElem?_eq_getElem hlt]
        rfl
      have z := so.2 _ (List.getElem_mem hlt)
      rw [← e] at z
      exact ⟨⟨z.1, z.2.1⟩, z.2.2⟩
    have e1 : (lcV (itT (gD 8)) (setN 6) yesT (b2 (gD 5) (gD 6) oIx) [6]) (nt m rest ts nums fits (stepsN ts.length) n6 cl (some (.dat (tI l))) n9) = some (l.map fun k => eP (stAt ts.length k)) := by
      refine lcV_map (enc := PyData.int) (fun k => eP (stAt ts.length k)) l (itT_eq rfl (by rw [List.length_map]; omega)) (by omega) fun k hk2 => ⟨_, rfl, ?_⟩
      have hk3 := hk k hk2
      have hlt : k.toNat < (stepsN ts.length).length := by rw [so.1]; omega
      show oIx (.list ((stepsN ts.length).map eP)) (.int k) = _
      have z := ix_nat ((stepsN ts.length).map eP) k.toNat (eP (stAt ts.length k)) (by
        rw [List.getElem?_map, List.getElem?_eq_getElem hlt]
        unfold stAt
        rw [List.getD_eq_getElem?_getD, List.getElem?_eq_getElem hlt]
        rfl)
      rw [Int.toNat_of_nonneg hk3.1] at z
      exact z
    have em : (l.map fun k => eP (stAt ts.length k)) = (roadOf ts.length l).map eP := by unfold roadOf; rw [List.map_map]; rfl
    rw [em] at e1
    have e2 : (c1 (consA (lsV (lcV (itT (gD 8)) (setN 6) yesT (b2 (gD 5) (gD 6) oIx) [6])) nilA) oTupOf) (nt m rest ts nums fits (stepsN ts.length) n6 cl (some (.dat (tI l))) n9) = some (tP (roadOf ts.length l)) := (c1_eq (o := oTupOf) (consA_eq (g := nilA) (ls_eq e1) rfl)).trans rfl
    have e3 : (c1 (consA (tupV (consA (fun _ => some (.str "clash")) (consA (gD 0) (consA (gD 1) (consA (gD 2) nilA))))) (consA (gD 9) nilA)) F_holds) (nt m rest ts nums fits (stepsN ts.length) n6 cl (some (.dat (tI l))) (some (.dat (tP (roadOf ts.length l))))) = some (.bool (clB rest ts (roadOf ts.length l))) :=
      (h_any (as := [.int m, .int rest, tT ts]) (p := tP (roadOf ts.length l)) f_clash rfl (sh_tell _ (by kernel_rfl)) : F_holds [.tuple (.str "clash" :: [.int m, .int rest, tT ts]), tP (roadOf ts.length l)] = _).trans (s_takes_clash h _ (by unfold roadOf; rw [List.length_map]; exact hl) rd)
    cases hc : clB rest ts (roadOf ts.length l) with
    | false =>
      rw [hc] at e3
      have st : gCl (nt m rest ts nums fits (stepsN ts.length) n6 cl (some (.dat (tI l))) n9) = some (.nx (nt m rest ts nums fits (stepsN ts.length) n6 cl (some (.dat (tI l))) (some (.dat (tP (roadOf ts.length l)))))) := (seqS_nx (asg_eq e2)).trans ((ifS_f (tb_eq e3)).trans rfl)
      obtain ⟨a, b, e⟩ := clash_loop h nums fits rs n6 _ _ cl (fun l hl => hr l (List.mem_cons_of_mem _ hl)) (by omega)
      refine ⟨a, b, (foS_cons rfl st).trans (e.trans ?_)⟩
      rw [List.filter_cons_of_neg (by rw [hc]; simp)]
    | true =>
      rw [hc] at e3
      have ap : appS 7 (gD 9) (nt m rest ts nums fits (stepsN ts.length) n6 cl (some (.dat (tI l))) (some (.dat (tP (roadOf ts.length l))))) = some (.nx (nt m rest ts nums fits (stepsN ts.length) n6 (cl ++ [tP (roadOf ts.length l)]) (some (.dat (tI l))) (some (.dat (tP (roadOf ts.length l)))))) := by
        show (if cl.length ≤ lim then some (Out.nx ((nt m rest ts nums fits (stepsN ts.length) n6 cl (some (.dat (tI l))) (some (.dat (tP (roadOf ts.length l))))).set 7 (some (.own (cl ++ [tP (roadOf ts.length l)]))))) else none) = _
        rw [if_pos (Nat.le_trans (show cl.length ≤ 2000 by omega) (by decide))]
        rfl
      have st : gCl (nt m rest ts nums fits (stepsN ts.length) n6 cl (some (.dat (tI l))) n9) = some (.nx (nt m rest ts nums fits (stepsN ts.length) n6 (cl ++ [tP (roadOf ts.length l)]) (some (.dat (tI l))) (some (.dat (tP (roadOf ts.length l)))))) := (seqS_nx (asg_eq e2)).trans ((ifS_t (tb_eq e3)).trans ap)
      obtain ⟨a, b, e⟩ := clash_loop h nums fits rs n6 _ _ (cl ++ [tP (roadOf ts.length l)]) (fun l hl => hr l (List.mem_cons_of_mem _ hl)) (by rw [List.length_append, List.length_singleton]; omega)
      refine ⟨a, b, (foS_cons rfl st).trans (e.trans ?_)⟩
      rw [List.filter_cons_of_pos (p := fun l => clB rest ts (roadOf ts.length l)) hc, List.map_cons, List.append_assoc]
      rfl
end
end Qd
end
section
set_option Elab.async false
set_option linter.all false
set_option autoImplicit false
set_option maxRecDepth 100000
set_option maxHeartbeats 1000000
/-! P13: tellings_right: its answer. -/
namespace Qd
open PySem
open PySem.Spec
theorem rowsR_of (k m : Nat) (hk : k = 2 ∨ k = 3) (hm : m = 2 ∨ m = 3) : F_law_rows_of [.int (k : Int), .int (m : Int)] = some (lTI (rowsN k m)) ∧ (rowsN k m).length ≤ 1000 ∧ ∀ l ∈ rowsN k m, l.length ≤ 900 := by
  rcases hk with rfl | rfl <;> rcases hm with rfl | rfl
  · exact ⟨rows22, by decide +kernel, by decide +kernel⟩
  · exact ⟨rows2, by decide +kernel, by decide +kernel⟩
  · exact ⟨rows33, by decide +kernel, by decide +kernel⟩
  · exact ⟨rows3, by decide +kernel, by decide +kernel⟩
theorem rowsS_of (n : Nat) (hn : n ≤ 3) : F_law_rows_of [.int ((2 * n : Nat) : Int), .int 3] = some (lTI (rowsN (2 * n) 3)) ∧ (rowsN (2 * n) 3).length ≤ 1000 ∧ ∀ l ∈ rowsN (2 * n) 3, l.length ≤ 900 ∧ ∀ k ∈ l, 0 ≤ k ∧ k < 2 * (n : Int) := by
  match n, hn with
  | 0, _ => exact ⟨rows0, by decide +kernel, by decide +kernel⟩
  | 1, _ => exact ⟨rows2, by decide +kernel, by decide +kernel⟩
  | 2, _ => exact ⟨rows4, by decide +kernel, by decide +kernel⟩
  | 3, _ => exact ⟨rows6, by decide +kernel, by decide +kernel⟩
  | n + 4, h => omega
section
variable {m k : Nat} {ts : List Tl}
def numsR (k m : Nat) : List (List Int) := (rowsN k m).filter fun l => decide ((l.length : Int) = (m : Int))
abbrev nu (m k : Nat) (ts : List Tl) (n3 n4 n5 n6 n7 : Option En) : Nv := [some (.dat (.int (m : Int))), some (.dat (.int (k : Int))), some (.dat (tT ts)), n3, n4, n5, n6, n7, none, none]
abbrev gSt : Gs := asgS (b2 (gD 5) (lsV (lstV (consA (tupV (consA (gD 6) (consA (fun _ => some (.int 1)) nilA))) (consA (tupV (consA (gD 6) (consA (b1 (fun _ => some (.int 1)) oNeg) nilA))) nilA)))) oAdd) (setN 5)
theorem steps_loop (a b c d e : Option En) (hn : ts.length ≤ 3) : ∃ n6, forS (itR1 (consA (c1 (consA (gD 2) nilA) oLen) nilA)) (setN 6) gSt [a, b, some (.dat (tT ts)), c, d, some (.dat (.list [])), none, e, none, none] = some (.nx [a, b, some (.dat (tT ts)), c, d, some (.dat (.list ((stepsN ts.length).map eP))), n6, e, none, none]) := by
  match ts, hn with
  | [], _ => exact ⟨none, rfl⟩
  | [_], _ => exact ⟨some (.dat (.int 0)), rfl⟩
  | [_, _], _ => exact ⟨some (.dat (.int 1)), rfl⟩
  | [_, _, _], _ => exact ⟨some (.dat (.int 2)), rfl⟩
  | _ :: _ :: _ :: _ :: _, h => simp at h
theorem tellings_right_eq (hm : m = 2 ∨ m = 3) (hk : k = 2 ∨ k = 3) (h : Te (m : Int) (k : Int) ts) : F_law_tellings_right [.int (m : Int), .int (k : Int), tT ts] = some (.bool ((!(numsR k m).any (fitB k ts)) != (!(rowsN (2 * ts.length) 3).any fun l => clB k ts (roadOf ts.length l)))) := by
  obtain ⟨q1, q2, q3⟩ := rowsR_of k m hk hm
  obtain ⟨p1, p2, p3⟩ := rowsS_of ts.length h.len
  have e1 : (lcV (itL (c1 (consA (gD 1) (consA (gD 0) nilA)) F_law_rows_of)) (setN 8) (tb (b2 (c1 (consA (gD 8) nilA) oLen) (gD 0) (oEqD false))) (gD 8) [8]) (nu m k ts none none none none none) = some ((numsR k m).map fun s => tI s) := by
    refine lcV_enc (enc := fun s => tI s) (fun l => decide ((l.length : Int) = (m : Int))) (fun s => tI s) (rowsN k m) (itL_eq q1 (by rw [List.length_map]; exact q2)) q2 fun l hl => ⟨_, rfl, ?_, fun _ => rfl⟩
    have z := eq_ii (((eI l).length : Nat) : Int) (m : Int)
    rw [eI_len] at z
    have z1 : oLen [tI l] = some (.int ((l.length : Nat) : Int)) := by
      show some (PyData.int (((eI l).length : Nat) : Int)) = _
      rw [eI_len]
    have z2 : (c1 (consA (gD 8) nilA) oLen) [some (.dat (.int (m : Int))), some (.dat (.int (k : Int))), some (.dat (tT ts)), none, none, none, none, none, some (.dat (tI l)), none] = some (.int ((l.length : Nat) : Int)) := z1
    exact tb_eq ((b2_eq (g := gD 0) (o := oEqD false) z2 rfl).trans z)
  have nl : (numsR k m).length ≤ 1000 := Nat.le_trans (List.length_filter_le ..) q2
  have e2 : (lcV (itL (gD 3)) (setN 8) (tb (c1 (consA (tupV (consA (fun _ => some (.str "fit")) (consA (gD 0) (consA (gD 1) (consA (gD 2) nilA))))) (consA (gD 8) nilA)) F_holds)) (gD 8) [8]) (nu m k ts (some (.dat (lTI (numsR k m)))) none none none none) = some (((numsR k m).filter (fitB k ts)).map fun s => tI s) := by
    refine lcV_enc (enc := fun s => tI s) (fitB k ts) (fun s => tI s) (numsR k m) (itL_eq rfl (by rw [List.length_map]; exact nl)) nl fun l hl => ⟨_, rfl, ?_, fun _ => rfl⟩
    obtain ⟨l1, l2⟩ := List.mem_filter.mp hl
    exact tb_eq ((h_any (as := [.int (m : Int), .int (k : Int), tT ts]) (p := tI l) f_fit rfl (sh_tell _ (by kernel_rfl)) : F_holds [.tuple (.str "fit" :: [.int (m : Int), .int (k : Int), tT ts]), tI l] = _).trans (s_takes_fit h l (of_decide_eq_true l2) (q3 l l1)))
  obtain ⟨n6, e3⟩ := steps_loop (ts := ts) (some (.dat (.int (m : Int)))) (some (.dat (.int (k : Int)))) (some (.dat (lTI (numsR k m)))) (some (.dat (lTI ((numsR k m).filter (fitB k ts))))) none h.len
  obtain ⟨n8, n9, e4⟩ := clash_loop h (numsR k m) ((numsR k m).filter (fitB k ts)) (rowsN (2 * ts.length) 3) n6 none none [] p3 (by simp; omega)
  have so := steps_ok ts.length h.len
  have e5 : (itL (c1 (consA (c1 (consA (gD 5) nilA) oLen) (consA (fun _ => some (.int 3)) nilA)) F_law_rows_of)) (nt m k ts (numsR k m) ((numsR k m).filter (fitB k ts)) (stepsN ts.length) n6 [] none none) = some ((rowsN (2 * ts.length) 3).map fun l => tI l) := by
    refine itL_eq ?_ (by rw [List.length_map]; exact p2)
    have : ((((stepsN ts.length).map eP).length : Nat) : Int) = ((2 * ts.length : Nat) : Int) := by rw [List.length_map, so.1]
    rw [← this] at p1
    exact p1
  refine runS_rt rfl ((seqS_nx (asg_eq (ls_eq e1))).trans ((seqS_nx (asg_eq (ls_eq e2))).trans ((seqS_nx rfl).trans ((seqS_nx e3).trans ((seqS_nx rfl).trans ((seqS_nx ((forS_eq e5).trans e4)).trans ?_))))))
  rw [List.nil_append]
  have shL : ∀ l : List (List Int), SeqAt.shaped (lTI l) = true := fun l => LayK.sh (k := 2) (lay_lst fun d hd => by
    obtain ⟨s, _, rfl⟩ := List.mem_map.mp hd
    exact lay_tI s) (by decide)
  have z1 := eq_lnil false (((numsR k m).filter (fitB k ts)).map fun s => tI s) (shL _)
  have z2 := eq_lnil false (((rowsN (2 * ts.length) 3).filter fun l => clB k ts (roadOf ts.length l)).map fun l => tP (roadOf ts.length l)) (LayK.sh (k := 3) (lay_lst fun d hd => by
    obtain ⟨s, _, rfl⟩ := List.mem_map.mp hd
    exact lay_tP _) (by decide))
  rw [List.isEmpty_map, filter_isEmpty] at z1 z2
  have y1 : (b2 (gD 4) (lsV (lstV nilA)) (oEqD false)) [some (.dat (.int (m : Int))), some (.dat (.int (k : Int))), some (.dat (tT ts)), some (.dat (lTI (numsR k m))), some (.dat (lTI ((numsR k m).filter (fitB k ts)))), some (.dat (.list ((stepsN ts.length).map eP))), n6, some (.dat (.list (((rowsN (2 * ts.length) 3).filter fun l => clB k ts (roadOf ts.length l)).map fun l => tP (roadOf ts.length l)))), n8, n9] = some (.bool (!(numsR k m).any (fitB k ts))) := z1
  have y2 : (b2 (gD 7) (lsV (lstV nilA)) (oEqD false)) [some (.dat (.int (m : Int))), some (.dat (.int (k : Int))), some (.dat (tT ts)), some (.dat (lTI (numsR k m))), some (.dat (lTI ((numsR k m).filter (fitB k ts)))), some (.dat (.list ((stepsN ts.length).map eP))), n6, some (.dat (.list (((rowsN (2 * ts.length) 3).filter fun l => clB k ts (roadOf ts.length l)).map fun l => tP (roadOf ts.length l)))), n8, n9] = some (.bool (!(rowsN (2 * ts.length) 3).any fun l => clB k ts (roadOf ts.length l))) := z2
  exact ret_eq ((b2_eq y1 y2).trans (ne_bb _ _))
end
end Qd
end
section
set_option Elab.async false
set_option linter.all false
set_option autoImplicit false
set_option maxRecDepth 100000
set_option maxHeartbeats 1000000
/-! P14: tellings: numbers that fit, or a road that clashes; just one of both. -/
namespace Qd
open PySem
theorem ngB_iff {k v : Int} : ngB k v = true ↔ k ∣ v := by
  unfold ngB
  rw [decide_eq_true_eq]
  exact ⟨Int.dvd_of_emod_eq_zero, Int.emod_eq_zero_of_dvd⟩
/-- a step's ends and weight -/
def stA (u : Tl) (p : Int × Int) : Int := if p.2 = -1 then u.2.1 else u.1
def stB (u : Tl) (p : Int × Int) : Int := if p.2 = -1 then u.1 else u.2.1
theorem endT_cons {ts : List Tl} {p : Int × Int} {l : List (Int × Int)} {u : Tl} {h t : Int} (hu : ts[p.1.toNat]? = some u) (hh : h = stA u p) : endT ts (p :: l) h t = endT ts l (stB u p) (t + p.2 * u.2.2) := by
  show (match ts[p.1.toNat]? with
    | some u => if h = (if p.2 = -1 then u.2.1 else u.1) then endT ts l (if p.2 = -1 then u.1 else u.2.1) (t + p.2 * u.2.2) else none
    | none => none) = _
  rw [hu]
  exact if_pos hh
theorem endT_inv {ts : List Tl} {p : Int × Int} {l : List (Int × Int)} {h t : Int} {q : Int × Int} (e : endT ts (p :: l) h t = some q) : ∃ u, ts[p.1.toNat]? = some u ∧ h = stA u p ∧ endT ts l (stB u p) (t + p.2 * u.2.2) = some q := by
  have e : (match ts[p.1.toNat]? with
    | some u => if h = (if p.2 = -1 then u.2.1 else u.1) then endT ts l (if p.2 = -1 then u.1 else u.2.1) (t + p.2 * u.2.2) else none
    | none => none) = some q := e
  cases hu : ts[p.1.toNat]? with
  | none => rw [hu] at e; cases e
  | some u =>
    rw [hu] at e
    have e : (if h = stA u p then endT ts l (stB u p) (t + p.2 * u.2.2) else none) = some q := e
    by_cases hh : h = stA u p
    · rw [if_pos hh] at e
      exact ⟨u, rfl, hh, e⟩
    · rw [if_neg hh] at e
      cases e
/-- where the numbers fit, a road adds up its ends' difference -/
theorem end_fit {k : Int} {ts : List Tl} {p : List Int} (hf : fitB k ts p = true) : ∀ (l : List (Int × Int)) (h t : Int) (q : Int × Int), (∀ s ∈ l, s.2 = 1 ∨ s.2 = -1) → endT ts l h t = some q → k ∣ (atL p q.1.toNat - atL p h.toNat) - (q.2 - t)
  | [], h, t, q, _, e => by
    cases e
    show k ∣ (atL p h.toNat - atL p h.toNat) - (t - t)
    rw [Int.sub_self, Int.sub_self, Int.sub_self]
    exact Int.dvd_zero k
  | s :: l, h, t, q, hs, e => by
    obtain ⟨u, hu, hh, e⟩ := endT_inv e
    have ih := end_fit hf l _ _ q (fun s' h' => hs s' (List.mem_cons_of_mem _ h')) e
    have hd := ngB_iff.mp (List.all_eq_true.mp hf u (List.mem_of_getElem? hu))
    have step : k ∣ (atL p (stB u s).toNat - atL p h.toNat) - s.2 * u.2.2 := by
      rw [hh]
      unfold stA stB
      rcases hs s List.mem_cons_self with z | z
      · rw [z, if_neg (by decide), if_neg (by decide), Int.one_mul]
        exact hd
      · rw [z, if_pos rfl, if_pos rfl]
        have := Int.dvd_neg.mpr hd
        have e : (atL p u.1.toNat - atL p u.2.1.toNat) - -1 * u.2.2 = -(atL p u.2.1.toNat - atL p u.1.toNat - u.2.2) := by omega
        rw [e]
        exact this
    have := Int.dvd_add ih step
    have e : (atL p q.1.toNat - atL p (stB u s).toNat) - (q.2 - (t + s.2 * u.2.2)) + ((atL p (stB u s).toNat - atL p h.toNat) - s.2 * u.2.2) = (atL p q.1.toNat - atL p h.toNat) - (q.2 - t) := by
      generalize s.2 * u.2.2 = w
      omega
    rw [e] at this
    exact this
theorem stA_start {u : Tl} {p : Int × Int} (h : p.2 = 1 ∨ p.2 = -1) : (if p.2 = 1 then u.1 else u.2.1) = stA u p := by
  unfold stA
  rcases h with h | h <;> rw [h] <;> rfl
/-- a closed road clashes just where its sum is no nought -/
theorem clB_closed {k : Int} {ts : List Tl} {p : Int × Int} {l : List (Int × Int)} {a w : Int} (hp : p.2 = 1 ∨ p.2 = -1) (e : endT ts (p :: l) a 0 = some (a, w)) : clB k ts (p :: l) = !ngB k w := by
  obtain ⟨u, hu, hh, _⟩ := endT_inv e
  show (match ts[p.1.toNat]? with
    | some u => (match endT ts (p :: l) (if p.2 = 1 then u.1 else u.2.1) 0 with
      | some q => decide (q.1 = if p.2 = 1 then u.1 else u.2.1) && !ngB k q.2
      | none => false)
    | none => false) = _
  rw [hu]
  show (match endT ts (p :: l) (if p.2 = 1 then u.1 else u.2.1) 0 with
      | some q => decide (q.1 = if p.2 = 1 then u.1 else u.2.1) && !ngB k q.2
      | none => false) = _
  rw [stA_start hp, ← hh, e]
  show (decide (a = a) && !ngB k w) = _
  rw [decide_eq_true rfl, Bool.true_and]
theorem clB_inv {k : Int} {ts : List Tl} {l : List (Int × Int)} (hs : ∀ s ∈ l, s.2 = 1 ∨ s.2 = -1) (e : clB k ts l = true) : ∃ a w, endT ts l a 0 = some (a, w) ∧ ngB k w = false := by
  cases l with
  | nil => cases e
  | cons p l =>
    have e : (match ts[p.1.toNat]? with
      | some u => (match endT ts (p :: l) (if p.2 = 1 then u.1 else u.2.1) 0 with
        | some q => decide (q.1 = if p.2 = 1 then u.1 else u.2.1) && !ngB k q.2
        | none => false)
      | none => false) = true := e
    cases hu : ts[p.1.toNat]? with
    | none => rw [hu] at e; cases e
    | some u =>
      rw [hu] at e
      have e : (match endT ts (p :: l) (if p.2 = 1 then u.1 else u.2.1) 0 with
        | some q => decide (q.1 = if p.2 = 1 then u.1 else u.2.1) && !ngB k q.2
        | none => false) = true := e
      cases he : endT ts (p :: l) (if p.2 = 1 then u.1 else u.2.1) 0 with
      | none => rw [he] at e; cases e
      | some q =>
        rw [he] at e
        have e : (decide (q.1 = if p.2 = 1 then u.1 else u.2.1) && !ngB k q.2) = true := e
        rw [Bool.and_eq_true, decide_eq_true_eq, Bool.not_eq_true'] at e
        obtain ⟨q1, q2⟩ := q
        have e1 : q1 = if p.2 = 1 then u.1 else u.2.1 := e.1
        rw [← e1] at he
        exact ⟨q1, q2, he, e.2⟩
theorem fit_no_clash {k : Int} {ts : List Tl} {p : List Int} {l : List (Int × Int)} (hf : fitB k ts p = true) (hs : ∀ s ∈ l, s.2 = 1 ∨ s.2 = -1) : clB k ts l = false := by
  refine (Bool.not_eq_true _).mp fun e => ?_
  obtain ⟨a, w, e1, e2⟩ := clB_inv hs e
  have := end_fit hf l a 0 (a, w) hs e1
  have z : k ∣ w := by
    have e3 : ((atL p a.toNat - atL p a.toNat) - (w - 0)) = -w := by omega
    rw [show (atL p ((a, w) : Int × Int).1.toNat - atL p a.toNat) - (((a, w) : Int × Int).2 - 0) = -w from e3] at this
    exact Int.dvd_neg.mp this
  rw [ngB_iff.mpr z] at e2
  cases e2
end Qd
end
section
set_option Elab.async false
set_option linter.all false
set_option autoImplicit false
set_option maxRecDepth 100000
set_option maxHeartbeats 1000000
/-! P15: no clash, then numbers fit. -/
namespace Qd
open PySem
def opts (k : Nat) : List (Option Nat) := none :: (List.range k).map some
def okO (k : Nat) (w : Option Nat) (a b : Nat) : Bool := match w with
  | none => true
  | some w => decide ((a + w) % k = b % k)
def triO (k : Nat) (w01 w02 w12 : Option Nat) : Bool := match w01, w02, w12 with
  | some a, some c, some b => decide ((a + b) % k ≠ c % k)
  | _, _, _ => false
def potO (k : Nat) (w01 w02 w12 : Option Nat) : Bool := (List.range k).any fun p => (List.range k).any fun q => (List.range k).any fun r => okO k w01 p q && okO k w02 p r && okO k w12 q r
theorem finTell : ([2, 3].all fun k => (opts k).all fun a => (opts k).all fun b => (opts k).all fun c => potO k a b c || triO k a b c) = true := by decide +kernel
theorem fin_tell {k : Nat} (hk : k = 2 ∨ k = 3) {a b c : Option Nat} (ha : a ∈ opts k) (hb : b ∈ opts k) (hc : c ∈ opts k) : potO k a b c = true ∨ triO k a b c = true := by
  have h := List.all_eq_true.mp finTell k (by rcases hk with rfl | rfl <;> simp)
  have h := List.all_eq_true.mp (List.all_eq_true.mp (List.all_eq_true.mp h a ha) b hb) c hc
  rwa [Bool.or_eq_true] at h
/-- a step from a to b of weight w -/
def Ed (ts : List Tl) (a b w : Int) : Prop := ∃ (p : Int × Int) (u : Tl), StOk ts.length p ∧ ts[p.1.toNat]? = some u ∧ a = stA u p ∧ b = stB u p ∧ w = p.2 * u.2.2
theorem ed_of {ts : List Tl} {u : Tl} (h : u ∈ ts) : Ed ts u.1 u.2.1 u.2.2 ∧ Ed ts u.2.1 u.1 (-u.2.2) := by
  obtain ⟨i, hi, e⟩ := List.mem_iff_getElem.mp h
  have e1 : ts[((i : Int)).toNat]? = some u := by rw [Int.toNat_natCast, List.getElem?_eq_getElem hi, e]
  exact ⟨⟨((i : Int), 1), u, ⟨⟨by show (0 : Int) ≤ (i : Int); omega, by show (i : Int) < (ts.length : Int); omega⟩, .inl rfl⟩, e1, rfl, rfl, by show _ = 1 * _; omega⟩,
    ⟨((i : Int), -1), u, ⟨⟨by show (0 : Int) ≤ (i : Int); omega, by show (i : Int) < (ts.length : Int); omega⟩, .inr rfl⟩, e1, rfl, rfl, by show _ = -1 * _; omega⟩⟩
def NC (k : Int) (ts : List Tl) : Prop := ∀ q : List (Int × Int), 1 ≤ q.length → q.length ≤ 3 → (∀ s ∈ q, StOk ts.length s) → clB k ts q = false
theorem nc_dvd {k : Int} {ts : List Tl} (h : NC k ts) {p : Int × Int} {l : List (Int × Int)} {a w : Int} (hl : l.length ≤ 2) (hs : ∀ s ∈ p :: l, StOk ts.length s) (e : endT ts (p :: l) a 0 = some (a, w)) : k ∣ w := by
  have z := h (p :: l) (by simp) (by simp; omega) hs
  rw [clB_closed (hs p List.mem_cons_self).2 e] at z
  exact ngB_iff.mp (by simpa using z)
theorem nc1 {k : Int} {ts : List Tl} (h : NC k ts) {a w : Int} (e : Ed ts a a w) : k ∣ w := by
  obtain ⟨p, u, h1, h2, h3, h4, h5⟩ := e
  refine nc_dvd h (p := p) (l := []) (a := a) (by simp) (fun s hs => by rw [List.mem_singleton.mp hs]; exact h1) ?_
  rw [endT_cons h2 h3, ← h4, ← h5, Int.zero_add]
  rfl
theorem nc2 {k : Int} {ts : List Tl} (h : NC k ts) {a b w v : Int} (e : Ed ts a b w) (e' : Ed ts b a v) : k ∣ w + v := by
  obtain ⟨p, u, h1, h2, h3, h4, h5⟩ := e
  obtain ⟨p', u', g1, g2, g3, g4, g5⟩ := e'
  refine nc_dvd h (p := p) (l := [p']) (a := a) (by simp) (fun s hs => ?_) ?_
  · simp only [List.mem_cons, List.not_mem_nil, or_false] at hs
    rcases hs with rfl | rfl
    · exact h1
    · exact g1
  · rw [endT_cons h2 h3, ← h4, ← h5, endT_cons g2 g3, ← g4, ← g5, Int.zero_add]
    rfl
theorem nc3 {k : Int} {ts : List Tl} (h : NC k ts) {a b c w v x : Int} (e : Ed ts a b w) (e' : Ed ts b c v) (e'' : Ed ts c a x) : k ∣ w + v + x := by
  obtain ⟨p, u, h1, h2, h3, h4, h5⟩ := e
  obtain ⟨p', u', g1, g2, g3, g4, g5⟩ := e'
  obtain ⟨p'', u'', f1, f2, f3, f4, f5⟩ := e''
  refine nc_dvd h (p := p) (l := [p', p'']) (a := a) (by simp) (fun s hs => ?_) ?_
  · simp only [List.mem_cons, List.not_mem_nil, or_false] at hs
    rcases hs with rfl | rfl | rfl
    · exact h1
    · exact g1
    · exact f1
  · rw [endT_cons h2 h3, ← h4, ← h5, endT_cons g2 g3, ← g4, ← g5, endT_cons f2 f3, ← f4, ← f5, Int.zero_add]
    rfl
/-- the codes of the steps -/
def codeOf (p : Int × Int) : Int := 2 * p.1 + (if p.2 = 1 then 0 else 1)
theorem code_ok {n : Nat} (hn : n ≤ 3) {p : Int × Int} (h : StOk n p) : stAt n (codeOf p) = p ∧ 0 ≤ codeOf p ∧ codeOf p < 2 * (n : Int) := by
  obtain ⟨i, s⟩ := p
  obtain ⟨⟨h1, h2⟩, h3⟩ := h
  have h1 : 0 ≤ i := h1
  have h2 : i < (n : Int) := h2
  have h3 : s = 1 ∨ s = -1 := h3
  have c : (n = 1 ∧ i = 0) ∨ (n = 2 ∧ (i = 0 ∨ i = 1)) ∨ (n = 3 ∧ (i = 0 ∨ i = 1 ∨ i = 2)) := by omega
  rcases c with ⟨rfl, rfl⟩ | ⟨rfl, rfl | rfl⟩ | ⟨rfl, rfl | rfl | rfl⟩ <;> rcases h3 with rfl | rfl <;> decide
theorem nc_of {k : Int} {ts : List Tl} (hn : ts.length ≤ 3) (h : ((rowsN (2 * ts.length) 3).any fun l => clB k ts (roadOf ts.length l)) = false) : NC k ts := by
  intro q h1 h3 hs
  refine (Bool.not_eq_true _).mp fun e => ?_
  have hq : roadOf ts.length (q.map codeOf) = q := by
    unfold roadOf
    rw [List.map_map]
    have : q.map (stAt ts.length ∘ codeOf) = q.map id := List.map_congr_left fun p hp => (code_ok hn (hs p hp)).1
    rw [this, List.map_id]
  have hm : q.map codeOf ∈ rowsN (2 * ts.length) 3 := mem_rows _ 3 _ (by rw [List.length_map]; exact h3) fun i hi => by
    obtain ⟨p, hp, rfl⟩ := List.mem_map.mp hi
    have := (code_ok hn (hs p hp)).2
    exact ⟨this.1, by have := this.2; omega⟩
  have z : ((rowsN (2 * ts.length) 3).any fun l => clB k ts (roadOf ts.length l)) = true := List.any_eq_true.mpr ⟨_, hm, by rw [hq]; exact e⟩
  rw [z] at h
  cases h
open Classical in
/-- a pair's weight, if there is a step -/
noncomputable def wt (k : Nat) (ts : List Tl) (a b : Int) : Option Nat := if h : ∃ w, Ed ts a b w then some (h.choose % (k : Int)).toNat else none
theorem wt_opts {k : Nat} (hk : 0 < k) (ts : List Tl) (a b : Int) : wt k ts a b ∈ opts k := by
  unfold wt opts
  split
  · rename_i h
    refine List.mem_cons_of_mem _ (List.mem_map.mpr ⟨_, List.mem_range.mpr ?_, rfl⟩)
    have h1 := Int.emod_nonneg h.choose (show (k : Int) ≠ 0 by omega)
    have h2 := Int.emod_lt_of_pos h.choose (show (0 : Int) < k by omega)
    omega
  · exact List.mem_cons_self
theorem wt_some {k : Nat} (hk : 0 < k) {ts : List Tl} {a b w : Int} (e : Ed ts a b w) : ∃ v, Ed ts a b v ∧ wt k ts a b = some (v % (k : Int)).toNat := by
  unfold wt
  have h : ∃ w, Ed ts a b w := ⟨w, e⟩
  rw [dif_pos h]
  exact ⟨h.choose, h.choose_spec, rfl⟩
theorem wt_ed {k : Nat} {ts : List Tl} {a b : Int} {v : Nat} (e : wt k ts a b = some v) : ∃ w, Ed ts a b w ∧ v = (w % (k : Int)).toNat := by
  unfold wt at e
  split at e
  · rename_i h
    cases e
    exact ⟨h.choose, h.choose_spec, rfl⟩
  · cases e
end Qd
end
section
set_option Elab.async false
set_option linter.all false
set_option autoImplicit false
set_option maxRecDepth 100000
set_option maxHeartbeats 1000000
/-! P16: tellings_right answers True. -/
namespace Qd
open PySem
theorem ed_rev {ts : List Tl} {a b w : Int} (e : Ed ts a b w) : Ed ts b a (-w) := by
  obtain ⟨p, u, ⟨h0, h1⟩, h2, h3, h4, h5⟩ := e
  obtain ⟨i, s⟩ := p
  have h1 : s = 1 ∨ s = -1 := h1
  rcases h1 with rfl | rfl
  · exact ⟨(i, -1), u, ⟨h0, .inr rfl⟩, h2, h4, h3, by rw [h5]; show -(1 * u.2.2) = -1 * u.2.2; omega⟩
  · exact ⟨(i, 1), u, ⟨h0, .inl rfl⟩, h2, h4, h3, by rw [h5]; show -(-1 * u.2.2) = 1 * u.2.2; omega⟩
theorem pair_ok {k : Nat} (hk : k = 2 ∨ k = 3) {ts : List Tl} (nc : NC k ts) {a b : Int} {p q : Nat} (h : okO k (wt k ts a b) p q = true) {w : Int} (e : Ed ts a b w) : (k : Int) ∣ (q : Int) - p - w := by
  have k0 : 0 < k := by rcases hk with rfl | rfl <;> decide
  obtain ⟨v, ev, hv⟩ := wt_some k0 e
  have d := nc2 nc ev (ed_rev e)
  rw [hv] at h
  have h : (p + (v % (k : Int)).toNat) % k = q % k := of_decide_eq_true h
  rcases hk with rfl | rfl
  · have d : (2 : Int) ∣ v + -w := d
    show (2 : Int) ∣ (q : Int) - p - w
    have h : (p + (v % 2).toNat) % 2 = q % 2 := h
    omega
  · have d : (3 : Int) ∣ v + -w := d
    show (3 : Int) ∣ (q : Int) - p - w
    have h : (p + (v % 3).toNat) % 3 = q % 3 := h
    omega
theorem no_tri {k : Nat} (hk : k = 2 ∨ k = 3) {ts : List Tl} (nc : NC k ts) : triO k (wt k ts 0 1) (wt k ts 0 2) (wt k ts 1 2) = false := by
  refine (Bool.not_eq_true _).mp fun h => ?_
  cases h1 : wt k ts 0 1 with
  | none => rw [h1] at h; cases h
  | some a =>
    cases h2 : wt k ts 0 2 with
    | none => rw [h1, h2] at h; cases h
    | some c =>
      cases h3 : wt k ts 1 2 with
      | none => rw [h1, h2, h3] at h; cases h
      | some b =>
        rw [h1, h2, h3] at h
        have h : (a + b) % k ≠ c % k := of_decide_eq_true h
        obtain ⟨w, e1, f1⟩ := wt_ed h1
        obtain ⟨x, e2, f2⟩ := wt_ed h2
        obtain ⟨v, e3, f3⟩ := wt_ed h3
        have d := nc3 nc e1 e3 (ed_rev e2)
        rcases hk with rfl | rfl
        · have d : (2 : Int) ∣ w + v + -x := d
          have f1 : a = (w % 2).toNat := f1
          have f2 : c = (x % 2).toNat := f2
          have f3 : b = (v % 2).toNat := f3
          have h : (a + b) % 2 ≠ c % 2 := h
          omega
        · have d : (3 : Int) ∣ w + v + -x := d
          have f1 : a = (w % 3).toNat := f1
          have f2 : c = (x % 3).toNat := f2
          have f3 : b = (v % 3).toNat := f3
          have h : (a + b) % 3 ≠ c % 3 := h
          omega
theorem neg_dvd' {k a b w : Int} (h : k ∣ a - b - -w) : k ∣ b - a - w := by
  have := Int.dvd_neg.mpr h
  have e : -(a - b - -w) = b - a - w := by omega
  rwa [e] at this
theorem fit_exists {m k : Nat} (hm : m = 2 ∨ m = 3) (hk : k = 2 ∨ k = 3) {ts : List Tl} (h : Te (m : Int) (k : Int) ts) (nc : NC k ts) : (numsR k m).any (fitB k ts) = true := by
  have k0 : 0 < k := by rcases hk with rfl | rfl <;> decide
  rcases fin_tell hk (wt_opts k0 ts 0 1) (wt_opts k0 ts 0 2) (wt_opts k0 ts 1 2) with hp | hp
  case inr => rw [no_tri hk nc] at hp; cases hp
  obtain ⟨p, hpk, hp⟩ := List.any_eq_true.mp hp
  obtain ⟨q, hqk, hp⟩ := List.any_eq_true.mp hp
  obtain ⟨r, hrk, hp⟩ := List.any_eq_true.mp hp
  rw [Bool.and_eq_true, Bool.and_eq_true] at hp
  have hpk := List.mem_range.mp hpk
  have hqk := List.mem_range.mp hqk
  have hrk := List.mem_range.mp hrk
  have P01 : ∀ {w : Int}, Ed ts 0 1 w → (k : Int) ∣ (q : Int) - p - w := fun e => pair_ok hk nc hp.1.1 e
  have P02 : ∀ {w : Int}, Ed ts 0 2 w → (k : Int) ∣ (r : Int) - p - w := fun e => pair_ok hk nc hp.1.2 e
  have P12 : ∀ {w : Int}, Ed ts 1 2 w → (k : Int) ∣ (r : Int) - q - w := fun e => pair_ok hk nc hp.2 e
  have self : ∀ (v a w : Int), Ed ts a a w → (k : Int) ∣ v - v - w := fun v a w e => by
    have z := Int.dvd_neg.mpr (nc1 nc e)
    have e : v - v - w = -w := by omega
    rwa [e]
  have fit : ∀ (l : List Int), atL l 0 = p → atL l 1 = q → (m = 3 → atL l 2 = r) → fitB k ts l = true := fun l h0 h1 h2 => by
    refine List.all_eq_true.mpr fun u hu => ngB_iff.mpr ?_
    have hr := List.all_eq_true.mp h.all u hu
    rw [Bool.and_eq_true] at hr
    have hx := inR_nat hr.1
    have hy := inR_nat hr.2
    have ed := (ed_of hu).1
    obtain ⟨x, y, d⟩ := u
    have hx : 0 ≤ x ∧ x < (m : Int) := hx
    have hy : 0 ≤ y ∧ y < (m : Int) := hy
    have ed : Ed ts x y d := ed
    show (k : Int) ∣ atL l y.toNat - atL l x.toNat - d
    have cx : x = 0 ∨ x = 1 ∨ (x = 2 ∧ m = 3) := by omega
    have cy : y = 0 ∨ y = 1 ∨ (y = 2 ∧ m = 3) := by omega
    rcases cx with rfl | rfl | ⟨rfl, m3⟩ <;> rcases cy with rfl | rfl | ⟨rfl, m3'⟩
    · exact self _ _ _ ed
    · show (k : Int) ∣ atL l 1 - atL l 0 - d; rw [h0, h1]; exact P01 ed
    · show (k : Int) ∣ atL l 2 - atL l 0 - d; rw [h0, h2 m3']; exact P02 ed
    · show (k : Int) ∣ atL l 0 - atL l 1 - d; rw [h0, h1]; exact neg_dvd' (P01 (ed_rev ed))
    · exact self _ _ _ ed
    · show (k : Int) ∣ atL l 2 - atL l 1 - d; rw [h1, h2 m3']; exact P12 ed
    · show (k : Int) ∣ atL l 0 - atL l 2 - d; rw [h0, h2 m3]; exact neg_dvd' (P02 (ed_rev ed))
    · show (k : Int) ∣ atL l 1 - atL l 2 - d; rw [h1, h2 m3]; exact neg_dvd' (P12 (ed_rev ed))
    · exact self _ _ _ ed
  rcases hm with rfl | rfl
  · refine List.any_eq_true.mpr ⟨[(p : Int), q], List.mem_filter.mpr ⟨mem_rows k 2 _ (by simp) (fun i hi => ?_), by simp⟩, fit _ rfl rfl (fun z => by cases z)⟩
    simp only [List.mem_cons, List.not_mem_nil, or_false] at hi
    rcases hi with rfl | rfl <;> omega
  · refine List.any_eq_true.mpr ⟨[(p : Int), q, r], List.mem_filter.mpr ⟨mem_rows k 3 _ (by simp) (fun i hi => ?_), by simp⟩, fit _ rfl rfl (fun _ => rfl)⟩
    simp only [List.mem_cons, List.not_mem_nil, or_false] at hi
    rcases hi with rfl | rfl | rfl <;> omega
theorem tellings_right {m k : Nat} (hm : m = 2 ∨ m = 3) (hk : k = 2 ∨ k = 3) {ts : List Tl} (h : Te (m : Int) (k : Int) ts) : F_law_tellings_right [.int (m : Int), .int (k : Int), tT ts] = some (.bool true) := by
  rw [tellings_right_eq hm hk h]
  cases hc : (rowsN (2 * ts.length) 3).any fun l => clB k ts (roadOf ts.length l) with
  | false =>
    rw [fit_exists hm hk h (nc_of h.len hc)]
    rfl
  | true =>
    have hf : (numsR k m).any (fitB k ts) = false := (Bool.not_eq_true _).mp fun z => by
      obtain ⟨p, _, hp⟩ := List.any_eq_true.mp z
      obtain ⟨l, hl, hcl⟩ := List.any_eq_true.mp hc
      have so := steps_ok ts.length h.len
      obtain ⟨_, _, p3⟩ := rowsS_of ts.length h.len
      rw [fit_no_clash hp (fun s hs => by
        obtain ⟨c, hc2, rfl⟩ := List.mem_map.mp hs
        have b := (p3 l hl).2 c hc2
        have hlt : c.toNat < (stepsN ts.length).length := by rw [so.1]; omega
        have e : stAt ts.length c = (stepsN ts.length)[c.toNat] := by
          unfold stAt
          rw [List.getD_eq_getElem?_getD, List.getElem?_eq_getElem hlt]
          rfl
        rw [e]
        exact (so.2 _ (List.getElem_mem hlt)).2.2)] at hcl
      cases hcl
    rw [hf]
    rfl
end Qd
end
section
set_option Elab.async false
set_option linter.all false
set_option autoImplicit false
set_option maxRecDepth 100000
set_option maxHeartbeats 0
/-! P17: shape_right of every forest on two to four things: a finite check. -/
namespace Qd
open PySem
def upN (l : List Int) (i : Nat) : Nat := (atL l i).toNat
def itU (l : List Int) : Nat → Nat → Nat
  | 0, i => i
  | k + 1, i => itU l k (upN l i)
/-- every thing's way up ends -/
def forB (l : List Int) : Bool := (l.all fun i => inR l.length i) && (List.range l.length).all fun i => decide (upN l (itU l l.length i) = itU l l.length i)
def jw : List Str := ["size", "rank", "told", "names"]
/-- numbers made plain ahead of a long check: the kernel keeps them so -/
def forceI (i : Int) (k : Int → Bool) : Bool := if i = 0 then k 0 else if i = 1 then k 1 else if i = 2 then k 2 else if i = 3 then k 3 else if i = 4 then k 4 else k i
theorem forceI_eq (i : Int) (k : Int → Bool) : forceI i k = k i := by
  unfold forceI
  repeat' split
  all_goals first | (rename_i h; rw [h]) | rfl
def forceL : List Int → (List Int → Bool) → Bool
  | [], k => k []
  | i :: l, k => forceI i fun i' => forceL l fun l' => k (i' :: l')
theorem forceL_eq : ∀ (l : List Int) (k : List Int → Bool), forceL l k = k l
  | [], _ => rfl
  | i :: l, k => by
    show forceI i (fun i' => forceL l fun l' => k (i' :: l')) = _
    rw [forceI_eq, forceL_eq]
def shapeChk (l : List Int) : Bool := forceL l fun l => !forB l || jw.all fun w => isTru (F_law_shape_right [.str w, tI l])
theorem shape2 : (rowsN.lastN 2 2).all shapeChk = true := by kernel_rfl
theorem shape3 : (rowsN.lastN 3 3).all shapeChk = true := by kernel_rfl
theorem shape4_0 : (((rowsN.lastN 4 4).drop 0).take 16).all shapeChk = true := by kernel_rfl
theorem shape4_1 : (((rowsN.lastN 4 4).drop 16).take 16).all shapeChk = true := by kernel_rfl
theorem shape4_2 : (((rowsN.lastN 4 4).drop 32).take 16).all shapeChk = true := by kernel_rfl
theorem shape4_3 : (((rowsN.lastN 4 4).drop 48).take 16).all shapeChk = true := by kernel_rfl
theorem shape4_4 : (((rowsN.lastN 4 4).drop 64).take 16).all shapeChk = true := by kernel_rfl
theorem shape4_5 : (((rowsN.lastN 4 4).drop 80).take 16).all shapeChk = true := by kernel_rfl
theorem shape4_6 : (((rowsN.lastN 4 4).drop 96).take 16).all shapeChk = true := by kernel_rfl
theorem shape4_7 : (((rowsN.lastN 4 4).drop 112).take 16).all shapeChk = true := by kernel_rfl
theorem shape4_8 : (((rowsN.lastN 4 4).drop 128).take 16).all shapeChk = true := by kernel_rfl
theorem shape4_9 : (((rowsN.lastN 4 4).drop 144).take 16).all shapeChk = true := by kernel_rfl
theorem shape4_10 : (((rowsN.lastN 4 4).drop 160).take 16).all shapeChk = true := by kernel_rfl
theorem shape4_11 : (((rowsN.lastN 4 4).drop 176).take 16).all shapeChk = true := by kernel_rfl
theorem shape4_12 : (((rowsN.lastN 4 4).drop 192).take 16).all shapeChk = true := by kernel_rfl
theorem shape4_13 : (((rowsN.lastN 4 4).drop 208).take 16).all shapeChk = true := by kernel_rfl
theorem shape4_14 : (((rowsN.lastN 4 4).drop 224).take 16).all shapeChk = true := by kernel_rfl
theorem shape4_15 : (((rowsN.lastN 4 4).drop 240).take 16).all shapeChk = true := by kernel_rfl
theorem all_chunk {α : Type} (p : α → Bool) (n : Nat) : ∀ (k : Nat) (l : List α), l.length ≤ n * k → (∀ i, i < k → ((l.drop (n * i)).take n).all p = true) → l.all p = true
  | 0, l, h, _ => by
    rw [Nat.mul_zero] at h
    rw [List.length_eq_zero_iff.mp (Nat.le_zero.mp h)]
    rfl
  | k + 1, l, h, hc => by
    have h0 := hc 0 (Nat.succ_pos k)
    rw [Nat.mul_zero, List.drop_zero] at h0
    have ih := all_chunk p n k (l.drop n) (by rw [List.length_drop, Nat.mul_succ] at *; omega) fun i hi => by
      have z := hc (i + 1) (by omega)
      rw [List.drop_drop]
      rw [Nat.mul_succ, Nat.add_comm] at z
      exact z
    rw [← List.take_append_drop n l, List.all_append, h0, ih]
    rfl
theorem shape4 : (rowsN.lastN 4 4).all shapeChk = true := by
  refine all_chunk shapeChk 16 16 _ (by decide +kernel) fun i hi => ?_
  match i, hi with
  | 0, _ => exact shape4_0
  | 1, _ => exact shape4_1
  | 2, _ => exact shape4_2
  | 3, _ => exact shape4_3
  | 4, _ => exact shape4_4
  | 5, _ => exact shape4_5
  | 6, _ => exact shape4_6
  | 7, _ => exact shape4_7
  | 8, _ => exact shape4_8
  | 9, _ => exact shape4_9
  | 10, _ => exact shape4_10
  | 11, _ => exact shape4_11
  | 12, _ => exact shape4_12
  | 13, _ => exact shape4_13
  | 14, _ => exact shape4_14
  | 15, _ => exact shape4_15
  | i + 16, h => omega
theorem shape_right {l : List Int} (hl : l.length = 2 ∨ l.length = 3 ∨ l.length = 4) (h : forB l = true) {w : Str} (hw : w ∈ jw) : F_law_shape_right [.str w, tI l] = some (.bool true) := by
  have hr : ∀ i ∈ l, 0 ≤ i ∧ i < (l.length : Int) := fun i hi => by
    unfold forB at h
    rw [Bool.and_eq_true] at h
    exact inR_nat (List.all_eq_true.mp h.1 i hi)
  have hm := mem_last l.length l.length l rfl hr
  have c : shapeChk l = true := by
    rcases hl with e | e | e
    · rw [e] at hm; exact List.all_eq_true.mp shape2 l hm
    · rw [e] at hm; exact List.all_eq_true.mp shape3 l hm
    · rw [e] at hm; exact List.all_eq_true.mp shape4 l hm
  unfold shapeChk at c
  rw [forceL_eq, h, Bool.not_true, Bool.false_or] at c
  exact isTru_ok (List.all_eq_true.mp c w hw)
end Qd
end
section
set_option Elab.async false
set_option linter.all false
set_option autoImplicit false
set_option maxRecDepth 100000
set_option maxHeartbeats 1000000
/-! P18: the law's cells and numbers. -/
namespace Qd
open PySem
open PySem.Spec

theorem mul_r {i j : Int} (h : -(2 ^ 64) < j ∧ j < 2 ^ 64) : oMul (.int i) (.int j) = some (.int (i * j)) := by
  show (if cMul i j = true then some (PyData.int (i * j)) else none) = _
  exact if_pos (decide_eq_true (.inr h))
theorem mul_l {i j : Int} (h : -(2 ^ 64) < i ∧ i < 2 ^ 64) : oMul (.int i) (.int j) = some (.int (i * j)) := by
  show (if cMul i j = true then some (PyData.int (i * j)) else none) = _
  exact if_pos (decide_eq_true (.inl h))
theorem md_eq {i j : Int} (h : 0 < j) : oIC cMod (fun i j => i % j) (.int i) (.int j) = some (.int (i % j)) := by
  show (if cMod i j = true then some (PyData.int (i % j)) else none) = _
  exact if_pos (decide_eq_true h)
theorem dv_eq {i j : Int} (h : 0 < j ∧ j < 1073741824) : oIC cDiv (fun i j => i / j) (.int i) (.int j) = some (.int (i / j)) := by
  show (if cDiv i j = true then some (PyData.int (i / j)) else none) = _
  exact if_pos (decide_eq_true h)
theorem atI_nat (ds : List D) (k : Nat) (d : D) (h : ds[k]? = some d) : oIx (.list ds) (.int k) = some d := ix_nat ds k d h
theorem cut3 (ds : List D) : oSlL (.list ds) none (some 3) = some (ds.take 3) := by
  show some (cutD ds none (some 3)) = _
  unfold cutD
  have e0 : HT.sIx ds.length 0 none = 0 := rfl
  have e : HT.sIx ds.length ds.length (some 3) = min 3 ds.length := by
    show (if (3 : Int) < 0 then ((3 : Int) + (ds.length : Int)).toNat else min (3 : Int).toNat ds.length) = _
    rw [if_neg (by decide)]
    rfl
  rw [e0, e, List.drop_zero, Nat.sub_zero]
  congr 1
  rw [Nat.min_comm]
  rcases Nat.le_total ds.length 3 with h | h
  · rw [Nat.min_eq_left h, List.take_length, List.take_of_length_le h]
  · rw [Nat.min_eq_right h]

/-! ### cell -/
abbrev cellN (s : D) (k : Int) (st x : Option En) : Nv := [some (.dat s), some (.dat (.int k)), st, x]
abbrev cellB : Gs := asgS (b2 (b2 (b2 (gD 2) (fun _ => some (.int 69621)) oMul) (gD 3) oAdd) (fun _ => some (.int 2147483647)) (oIC cMod fun i j => i % j)) (setN 2)
theorem cl_loop (s : D) (k : Int) : ∀ (l : List Int) (st : Int) (x : Option En), ∃ (st' : Int) (x' : Option En), foS (setN 3) cellB (eI l) (cellN s k (some (.dat (.int st))) x) = some (.nx (cellN s k (some (.dat (.int st'))) x'))
  | [], st, x => ⟨st, x, rfl⟩
  | c :: l, st, x => by
    obtain ⟨st', x', e⟩ := cl_loop s k l ((st * 69621 + c) % 2147483647) (some (.dat (.int c)))
    refine ⟨st', x', ?_⟩
    have e1 : cellB (cellN s k (some (.dat (.int st))) (some (.dat (.int c)))) = some (.nx (cellN s k (some (.dat (.int ((st * 69621 + c) % 2147483647)))) (some (.dat (.int c))))) :=
      asg_eq (i := 2) ((b2_eq ((b2_eq ((b2_eq rfl rfl).trans (mul_r ⟨by decide, by decide⟩)) rfl).trans rfl) rfl).trans (md_eq (by decide)))
    exact (foS_cons (a := setN 3) rfl e1).trans e
theorem cell_ok (l : List Int) (k : Nat) (hl : l.length ≤ 63) (hk : k ≤ 1000) : ∃ c : Int, F_law_cell [lI l, .int k] = some (.int c) := by
  by_cases h : k < l.length
  · refine ⟨atL l k, runS_rt rfl (seqS_rt ((ifS_t ?_).trans (ret_eq ?_)))⟩
    · refine tb_eq ((b2_eq (x := .int k) (y := .int (eI l).length) rfl rfl).trans ?_)
      rw [eI_len]
      exact congrArg some (congrArg PyData.bool (decide_eq_true (by omega)))
    · exact (b2_eq (x := lI l) (y := .int k) rfl rfl).trans (ix_at l h)
  · obtain ⟨st', x', e⟩ := cl_loop (lI l) k (l.take 3) (48271 * ((k : Int) * k + 7 * k + 11) % 2147483647) none
    refine ⟨st', runS_rt rfl ((seqS_nx ((ifS_f ?_).trans rfl)).trans ((seqS_nx (asg_eq (i := 2) (ρ := cellN (lI l) k none none) (d := .int (48271 * ((k : Int) * k + 7 * k + 11) % 2147483647)) ?_)).trans ((seqS_nx ((forS_eq ?_).trans e)).trans (ret_eq rfl))))⟩
    · refine tb_eq ((b2_eq (x := .int k) (y := .int (eI l).length) rfl rfl).trans ?_)
      rw [eI_len]
      exact congrArg some (congrArg PyData.bool (decide_eq_false (by omega)))
    · exact (b2_eq ((b2_eq rfl ((b2_eq ((b2_eq ((b2_eq rfl rfl).trans (mul_r (by omega))) ((b2_eq rfl rfl).trans (mul_l (by decide)))).trans rfl) rfl).trans rfl)).trans (mul_l (by decide))) rfl).trans (md_eq (by decide))
    · have e2 : slV (gD 0) noP (someP (fun _ => some (.int 3))) oSlL (cellN (lI l) k (some (.dat (.int (48271 * ((k : Int) * k + 7 * k + 11) % 2147483647)))) none) = some ((eI l).take 3) := cut3 (eI l)
      have e3 : (eI l).take 3 = eI (l.take 3) := by unfold eI; rw [List.map_take]
      rw [e3] at e2
      have e4 : (eI (l.take 3)).length ≤ lim := by rw [eI_len, List.length_take]; exact Nat.le_trans (Nat.min_le_left ..) (by decide)
      show itL _ _ = _
      unfold itL lsV
      rw [e2]
      show (if (eI (l.take 3)).length ≤ lim then some (eI (l.take 3)) else none) = _
      rw [if_pos e4]

/-! ### numbers -/
abbrev nuN (c n : Int) (acc st dg x : Option En) : Nv := [some (.dat (.int c)), some (.dat (.int n)), acc, st, dg, x]
abbrev nuA : Gs := asgS (b2 (b2 (b2 (b2 (gD 3) (b2 (b2 (gD 3) (fun _ => some (.int 65521)) (oIC cMod fun i j => i % j)) (fun _ => some (.int 40487)) oAdd) oMul) (b2 (fun _ => some (.int 7)) (gD 5) oMul) oAdd) (fun _ => some (.int 5)) oAdd) (fun _ => some (.int 1999999973)) (oIC cMod fun i j => i % j)) (setN 3)
abbrev nuP : Gs := appS 2 (b2 (lsV (lstV (consA (gD 3) (consA (b2 (gD 4) (fun _ => some (.int 1000000)) (oIC cMod fun i j => i % j)) nilA)))) (c1 (consA (b2 (gD 4) (fun _ => some (.int 0)) (oB fun i j => decide (j < i))) nilA) oInt) oIx)
abbrev nuD : Gs := asgS (b2 (gD 4) (fun _ => some (.int 1000000)) (oIC cDiv fun i j => i / j)) (setN 4)
abbrev nuB : Gs := seqS nuA (seqS nuP nuD)
def okN (l : List Int) : Prop := ∀ x ∈ l, 0 ≤ x ∧ x < 2000000000
def nxt (st k : Int) : Int := (st * (st % 65521 + 40487) + 7 * k + 5) % 1999999973
theorem nu_a (c n st dg k : Int) (acc : Option En) : nuA (nuN c n acc (some (.dat (.int st))) (some (.dat (.int dg))) (some (.dat (.int k)))) = some (.nx (nuN c n acc (some (.dat (.int (nxt st k)))) (some (.dat (.int dg))) (some (.dat (.int k))))) := by
  have h := Int.emod_nonneg st (b := 65521) (by decide)
  have h' := Int.emod_lt_of_pos st (b := 65521) (by decide)
  exact asg_eq (i := 3) (ρ := nuN c n acc (some (.dat (.int st))) (some (.dat (.int dg))) (some (.dat (.int k)))) (d := .int (nxt st k)) ((b2_eq ((b2_eq ((b2_eq ((b2_eq rfl ((b2_eq ((b2_eq rfl rfl).trans (md_eq (by decide))) rfl).trans rfl)).trans (mul_r (by omega))) ((b2_eq rfl rfl).trans (mul_l (by decide)))).trans rfl) rfl).trans rfl) rfl).trans (md_eq (by decide)))
theorem nu_p (c n st dg k : Int) (acc : List Int) (hl : acc.length ≤ 1000) (h : 0 ≤ st ∧ st < 2000000000) : ∃ x : Int, (0 ≤ x ∧ x < 2000000000) ∧ nuP (nuN c n (some (.own (eI acc))) (some (.dat (.int st))) (some (.dat (.int dg))) (some (.dat (.int k)))) = some (.nx (nuN c n (some (.own (eI (acc ++ [x])))) (some (.dat (.int st))) (some (.dat (.int dg))) (some (.dat (.int k))))) := by
  have h1 := Int.emod_nonneg dg (b := 1000000) (by decide)
  have h1' := Int.emod_lt_of_pos dg (b := 1000000) (by decide)
  have key : ∀ x : Int, b2 (lsV (lstV (consA (gD 3) (consA (b2 (gD 4) (fun _ => some (.int 1000000)) (oIC cMod fun i j => i % j)) nilA)))) (c1 (consA (b2 (gD 4) (fun _ => some (.int 0)) (oB fun i j => decide (j < i))) nilA) oInt) oIx (nuN c n (some (.own (eI acc))) (some (.dat (.int st))) (some (.dat (.int dg))) (some (.dat (.int k)))) = some (.int x) → nuP (nuN c n (some (.own (eI acc))) (some (.dat (.int st))) (some (.dat (.int dg))) (some (.dat (.int k)))) = some (.nx (nuN c n (some (.own (eI (acc ++ [x])))) (some (.dat (.int st))) (some (.dat (.int dg))) (some (.dat (.int k))))) := fun x e => by
    show (((gO 2 _).bind fun ds => (b2 _ _ _ _).bind fun x => if ds.length ≤ lim then some (Out.nx (List.set _ 2 (some (.own (ds ++ [x]))))) else none)) = _
    rw [e]
    show (if (eI acc).length ≤ lim then _ else none) = _
    rw [if_pos (by rw [eI_len]; exact Nat.le_trans hl (by decide))]
    unfold eI
    rw [List.map_append]
    rfl
  have m1 : b2 (gD 4) (fun _ => some (.int 1000000)) (oIC cMod fun i j => i % j) (nuN c n (some (.own (eI acc))) (some (.dat (.int st))) (some (.dat (.int dg))) (some (.dat (.int k)))) = some (.int (dg % 1000000)) := (b2_eq rfl rfl).trans (md_eq (by decide))
  by_cases hd : 0 < dg
  · refine ⟨dg % 1000000, by omega, key _ ((b2_eq (x := .list [.int st, .int (dg % 1000000)]) (y := .int 1) ?_ ?_).trans rfl)⟩
    · unfold lsV lstV
      rw [consA_eq (x := .int st) rfl (consA_eq m1 rfl)]
      rfl
    · refine (c1_eq (consA_eq (x := .bool true) ((b2_eq rfl rfl).trans (congrArg some (congrArg PyData.bool (decide_eq_true hd)))) rfl)).trans rfl
  · refine ⟨st, h, key _ ((b2_eq (x := .list [.int st, .int (dg % 1000000)]) (y := .int 0) ?_ ?_).trans rfl)⟩
    · unfold lsV lstV
      rw [consA_eq (x := .int st) rfl (consA_eq m1 rfl)]
      rfl
    · refine (c1_eq (consA_eq (x := .bool false) ((b2_eq rfl rfl).trans (congrArg some (congrArg PyData.bool (decide_eq_false hd)))) rfl)).trans rfl
theorem nu_d (c n st dg k : Int) (acc : Option En) : nuD (nuN c n acc (some (.dat (.int st))) (some (.dat (.int dg))) (some (.dat (.int k)))) = some (.nx (nuN c n acc (some (.dat (.int st))) (some (.dat (.int (dg / 1000000)))) (some (.dat (.int k))))) :=
  asg_eq (i := 4) (ρ := nuN c n acc (some (.dat (.int st))) (some (.dat (.int dg))) (some (.dat (.int k)))) (d := .int (dg / 1000000)) ((b2_eq rfl rfl).trans (dv_eq (by decide)))
theorem nxt_ok (st k : Int) : 0 ≤ nxt st k ∧ nxt st k < 2000000000 := by
  unfold nxt
  have h := Int.emod_nonneg (st * (st % 65521 + 40487) + 7 * k + 5) (b := 1999999973) (by decide)
  have h' := Int.emod_lt_of_pos (st * (st % 65521 + 40487) + 7 * k + 5) (b := 1999999973) (by decide)
  omega
theorem nu_loop (c n : Int) : ∀ (ks : List Int) (acc : List Int) (st dg : Int) (x : Option En), acc.length + ks.length ≤ 1000 → ∃ (l : List Int) (st' dg' : Int) (x' : Option En), l.length = ks.length ∧ okN l ∧ foS (setN 5) nuB (eI ks) (nuN c n (some (.own (eI acc))) (some (.dat (.int st))) (some (.dat (.int dg))) x) = some (.nx (nuN c n (some (.own (eI (acc ++ l)))) (some (.dat (.int st'))) (some (.dat (.int dg'))) x'))
  | [], acc, st, dg, x, _ => ⟨[], st, dg, x, rfl, (by intro z hz; cases hz), (by rw [List.append_nil]; rfl)⟩
  | k :: ks, acc, st, dg, x, hl => by
    rw [List.length_cons] at hl
    obtain ⟨y, hy, ep⟩ := nu_p c n (nxt st k) dg k acc (by omega) (nxt_ok st k)
    obtain ⟨l, st', dg', x', h1, h2, e⟩ := nu_loop c n ks (acc ++ [y]) (nxt st k) (dg / 1000000) (some (.dat (.int k))) (by rw [List.length_append, List.length_singleton]; omega)
    refine ⟨y :: l, st', dg', x', by rw [List.length_cons, List.length_cons, h1], fun z hz => ?_, ?_⟩
    · rcases List.mem_cons.mp hz with rfl | hz
      · exact hy
      · exact h2 z hz
    · have e1 : nuB (nuN c n (some (.own (eI acc))) (some (.dat (.int st))) (some (.dat (.int dg))) (some (.dat (.int k)))) = some (.nx (nuN c n (some (.own (eI (acc ++ [y])))) (some (.dat (.int (nxt st k)))) (some (.dat (.int (dg / 1000000)))) (some (.dat (.int k))))) :=
        (seqS_nx (nu_a c n st dg k _)).trans ((seqS_nx ep).trans (nu_d c n _ dg k _))
      have e2 : acc ++ y :: l = acc ++ [y] ++ l := by rw [List.append_assoc]; rfl
      rw [e2]
      exact (foS_cons (a := setN 5) rfl e1).trans e
abbrev nuIf : Gs := ifS (orT (tb (b2 (gD 0) (fun _ => some (.int 0)) (oB fun i j => decide (i < j)))) (tb (b2 (gD 0) (b2 (fun _ => some (.int 10)) (fun _ => some (.int 18)) (oIC cPow fun i j => i ^ j.toNat)) (oB fun i j => decide (j ≤ i))))) (asgS (c1 (consA (gD 0) nilA) oAbs) (setN 4)) nextS
theorem nu_if (c n st : Int) : ∃ dg : Int, nuIf (nuN c n (some (.own [])) (some (.dat (.int st))) (some (.dat (.int 0))) none) = some (.nx (nuN c n (some (.own [])) (some (.dat (.int st))) (some (.dat (.int dg))) none)) := by
  have hc : orT (tb (b2 (gD 0) (fun _ => some (.int 0)) (oB fun i j => decide (i < j)))) (tb (b2 (gD 0) (b2 (fun _ => some (.int 10)) (fun _ => some (.int 18)) (oIC cPow fun i j => i ^ j.toNat)) (oB fun i j => decide (j ≤ i)))) (nuN c n (some (.own [])) (some (.dat (.int st))) (some (.dat (.int 0))) none) = some (decide (c < 0) || decide (1000000000000000000 ≤ c)) :=
    orT_eq (tb_eq ((b2_eq rfl rfl).trans rfl)) fun _ => tb_eq ((b2_eq (x := .int c) (y := .int 1000000000000000000) rfl (by kernel_rfl)).trans rfl)
  cases hb : (decide (c < 0) || decide (1000000000000000000 ≤ c)) with
  | true => exact ⟨if c < 0 then -c else c, (ifS_t (hc.trans (congrArg some hb))).trans (asg_eq (i := 4) (ρ := nuN c n (some (.own [])) (some (.dat (.int st))) (some (.dat (.int 0))) none) (d := .int (if c < 0 then -c else c)) rfl)⟩
  | false => exact ⟨0, (ifS_f (hc.trans (congrArg some hb))).trans rfl⟩
theorem numbers_ok (c : Int) (n : Nat) (hn : n ≤ 100) : ∃ l : List Int, l.length = n ∧ okN l ∧ F_law_numbers [.int c, .int n] = some (lI l) := by
  have hm := Int.emod_nonneg c (b := 1999999973) (by decide)
  have hm' := Int.emod_lt_of_pos c (b := 1999999973) (by decide)
  obtain ⟨dg, ei⟩ := nu_if c n ((c % 1999999973 + 31) * 765432101 % 1999999973)
  obtain ⟨l, st', dg', x', h1, h2, e⟩ := nu_loop c n (ksN n) [] ((c % 1999999973 + 31) * 765432101 % 1999999973) dg none (by rw [ksN_len]; exact Nat.le_trans (by omega : 0 + n ≤ 100) (by decide))
  rw [ksN_len] at h1
  refine ⟨l, h1, h2, runS_rt rfl ((seqS_nx (ρ' := nuN c n (some (.own [])) none none none) rfl).trans ((seqS_nx (asg_eq (i := 3) (ρ := nuN c n (some (.own [])) none none none) (d := .int ((c % 1999999973 + 31) * 765432101 % 1999999973)) ?_)).trans ((seqS_nx (ρ' := nuN c n (some (.own [])) (some (.dat (.int ((c % 1999999973 + 31) * 765432101 % 1999999973)))) (some (.dat (.int 0))) none) rfl).trans ((seqS_nx ei).trans ((seqS_nx ((forS_eq ?_).trans e)).trans rfl)))))⟩
  · exact (b2_eq ((b2_eq ((b2_eq ((b2_eq rfl rfl).trans (md_eq (by decide))) rfl).trans rfl) rfl).trans (mul_r (by decide))) rfl).trans (md_eq (by decide))
  · rw [← rgD_ks]
    show (if rgOk (0, (n : Int)) = true then some (rgD 0 n) else none) = _
    exact if_pos (decide_eq_true (by show (-1000 : Int) ≤ 0 ∧ (0 : Int) ≤ 1000 ∧ -1000 ≤ (n : Int) ∧ (n : Int) ≤ 1000; omega))
end Qd
end
section
set_option Elab.async false
set_option linter.all false
set_option autoImplicit false
set_option maxRecDepth 100000
set_option maxHeartbeats 1000000
/-! P19: the law's joins: at most four pairs of things in range. -/
namespace Qd
open PySem
open PySem.Spec

theorem at_ok (l : List Int) (k : Nat) (h : k < l.length) : oIx (lI l) (.int (k : Int)) = some (.int (atL l k)) := ix_at l h
theorem okN_at {l : List Int} (h : okN l) {k : Nat} (hk : k < l.length) : 0 ≤ atL l k ∧ atL l k < 2000000000 := by
  have e := atL_some hk
  exact h _ (List.mem_of_getElem? e)
theorem cut_drop (ds : List D) (k : Nat) : oSlL (.list ds) (some (k : Int)) none = some (ds.drop k) := by
  show some (cutD ds (some (k : Int)) none) = _
  unfold cutD
  have e0 : HT.sIx ds.length ds.length none = ds.length := rfl
  have e : HT.sIx ds.length 0 (some (k : Int)) = min k ds.length := by
    show (if (k : Int) < 0 then ((k : Int) + (ds.length : Int)).toNat else min (k : Int).toNat ds.length) = _
    rw [if_neg (by omega)]
    rfl
  rw [e0, e]
  congr 1
  rcases Nat.le_total k ds.length with h | h
  · rw [Nat.min_eq_left h, List.take_of_length_le (by rw [List.length_drop]; exact Nat.le_refl _)]
  · rw [Nat.min_eq_right h, List.drop_length, List.drop_of_length_le h, List.take_nil]
theorem emod_in (a m : Int) (h : 0 < m) : inR m (a % m) = true := by
  have h1 := Int.emod_nonneg a (b := m) (by omega)
  have h2 := Int.emod_lt_of_pos a h
  unfold inR
  rw [decide_eq_true h1, decide_eq_true h2]
  rfl
theorem inR_iff {m i : Int} : inR m i = true ↔ 0 ≤ i ∧ i < m := by
  unfold inR
  rw [Bool.and_eq_true, decide_eq_true_iff, decide_eq_true_iff]

def prR (m : Int) (p : Int × Int) : Bool := inR m p.1 && inR m p.2
abbrev jN (s : D) (m : Int) (hd : List Int) (acc k xs x y : Option En) : Nv := [some (.dat s), some (.dat (.int 0)), some (.dat (.int m)), some (.dat (.int 4)), some (.dat (lI hd)), acc, k, xs, x, y]
abbrev jI (i : Int) : Option En := some (.dat (.int i))
abbrev jO (r : List (Int × Int)) : Option En := some (.own (r.map eP))
abbrev jXs : Gs := asgS (lsV (slV (c1 (consA (c1 (consA (gD 0) (consA (b2 (b2 (gD 1) (fun _ => some (.int 1)) oAdd) (b2 (gD 6) (fun _ => some (.int 5)) (oIC cDiv fun i j => i / j)) oAdd) nilA)) F_law_cell) (consA (fun _ => some (.int 20)) nilA)) F_law_numbers) (someP (b2 (fun _ => some (.int 4)) (b2 (gD 6) (fun _ => some (.int 5)) (oIC cMod fun i j => i % j)) oMul)) noP oSlL)) (setN 7)
abbrev jP : Gs := parS 8 9 (b2 (b2 (gD 7) (fun _ => some (.int 0)) oIx) (gD 2) (oIC cMod fun i j => i % j)) (b2 (b2 (gD 7) (fun _ => some (.int 1)) oIx) (gD 2) (oIC cMod fun i j => i % j))
abbrev jF1 : Gs := ifS (tb (b2 (b2 (b2 (gD 4) (fun _ => some (.int 1)) oIx) (fun _ => some (.int 4)) (oIC cMod fun i j => i % j)) (fun _ => some (.int 1)) (oEqD false))) (parS 8 9 (b2 (gD 6) (gD 2) (oIC cMod fun i j => i % j)) (b2 (b2 (gD 6) (fun _ => some (.int 1)) oAdd) (gD 2) (oIC cMod fun i j => i % j))) nextS
abbrev jF2 : Gs := ifS (andT (tb (b2 (b2 (b2 (gD 4) (fun _ => some (.int 1)) oIx) (fun _ => some (.int 4)) (oIC cMod fun i j => i % j)) (fun _ => some (.int 2)) (oEqD false))) (tb (b2 (b2 (b2 (gD 7) (fun _ => some (.int 2)) oIx) (fun _ => some (.int 3)) (oIC cMod fun i j => i % j)) (fun _ => some (.int 0)) (oB fun i j => decide (j < i))))) (seqS (asgS (b2 (b2 (b2 (gD 8) (fun _ => some (.int 2)) (oIC cDiv fun i j => i / j)) (fun _ => some (.int 2)) oMul) (gD 2) (oIC cMod fun i j => i % j)) (setN 8)) (asgS (c1 (consA (b2 (gD 2) (fun _ => some (.int 1)) (oI fun i j => i - j)) (consA (b2 (gD 8) (fun _ => some (.int 1)) oAdd) nilA)) oMin2) (setN 9))) nextS
abbrev jF3 : Gs := ifS (andT (tb (eqO true 5 (lsV (lstV nilA)))) (tb (b2 (b2 (b2 (gD 7) (fun _ => some (.int 2)) oIx) (fun _ => some (.int 7)) (oIC cMod fun i j => i % j)) (fun _ => some (.int 1)) (oEqD false)))) (asgS (ixO 5 (b2 (b2 (gD 7) (fun _ => some (.int 3)) oIx) (lenO 5) (oIC cMod fun i j => i % j))) (tupG 2 (consG (setN 8) (consG (setN 9) nilG)))) nextS
abbrev jAp : Gs := appS 5 (b2 (lsV (lstV (consA (tupV (consA (gD 8) (consA (gD 9) nilA))) (consA (tupV (consA (gD 9) (consA (gD 8) nilA))) nilA)))) (b2 (b2 (b2 (gD 7) (fun _ => some (.int 2)) oIx) (fun _ => some (.int 7)) (oIC cDiv fun i j => i / j)) (fun _ => some (.int 2)) (oIC cMod fun i j => i % j)) oIx)
abbrev jB : Gs := seqS jXs (seqS jP (seqS jF1 (seqS jF2 (seqS jF3 jAp))))
section
variable (s : List Int) (m : Int) (hd : List Int) (hs : s.length ≤ 63) (hm : 2 ≤ m ∧ m ≤ 4) (hh : hd.length = 4)
include hs in
theorem j_xs (acc x7 x8 x9 : Option En) (k : Nat) (hk : k < 5) : ∃ l : List Int, l.length ≥ 4 ∧ jXs (jN (lI s) m hd acc (jI k) x7 x8 x9) = some (.nx (jN (lI s) m hd acc (jI k) (some (.dat (lI l))) x8 x9)) := by
  obtain ⟨c, ec⟩ := cell_ok s 1 hs (by decide)
  obtain ⟨l, hl, _, en⟩ := numbers_ok c 20 (by decide)
  refine ⟨l.drop (4 * k), by rw [List.length_drop, hl]; omega, asg_eq (i := 7) (ρ := jN (lI s) m hd acc (jI k) x7 x8 x9) ?_⟩
  have hk0 : (k : Int) / 5 = 0 := by omega
  have hk1 : (k : Int) % 5 = k := by omega
  have e1 : b2 (b2 (gD 1) (fun _ => some (.int 1)) oAdd) (b2 (gD 6) (fun _ => some (.int 5)) (oIC cDiv fun i j => i / j)) oAdd (jN (lI s) m hd acc (jI k) x7 x8 x9) = some (.int 1) := by
    refine (b2_eq (x := .int 1) (y := .int 0) rfl ((b2_eq rfl rfl).trans ((dv_eq (i := k) (j := 5) (by decide)).trans ?_))).trans rfl
    rw [hk0]
  have e2 : c1 (consA (c1 (consA (gD 0) (consA (b2 (b2 (gD 1) (fun _ => some (.int 1)) oAdd) (b2 (gD 6) (fun _ => some (.int 5)) (oIC cDiv fun i j => i / j)) oAdd) nilA)) F_law_cell) (consA (fun _ => some (.int 20)) nilA)) F_law_numbers (jN (lI s) m hd acc (jI k) x7 x8 x9) = some (lI l) :=
    (c1_eq (consA_eq ((c1_eq (consA_eq rfl (consA_eq e1 rfl))).trans ec) (consA_eq rfl rfl))).trans en
  have e3 : someP (b2 (fun _ => some (.int 4)) (b2 (gD 6) (fun _ => some (.int 5)) (oIC cMod fun i j => i % j)) oMul) (jN (lI s) m hd acc (jI k) x7 x8 x9) = some (some ((4 * k : Nat) : Int)) := by
    have : b2 (fun _ => some (.int 4)) (b2 (gD 6) (fun _ => some (.int 5)) (oIC cMod fun i j => i % j)) oMul (jN (lI s) m hd acc (jI k) x7 x8 x9) = some (.int ((4 * k : Nat) : Int)) := by
      refine (b2_eq (x := .int 4) (y := .int k) rfl ((b2_eq rfl rfl).trans ((md_eq (i := k) (j := 5) (by decide)).trans ?_))).trans ((mul_l (by decide)).trans ?_)
      · rw [hk1]
      · congr 2
    unfold someP
    rw [this]
    rfl
  unfold lsV slV
  rw [e2, Option.bind_some]
  rw [e3, Option.bind_some]
  show (oSlL (lI l) (some ((4 * k : Nat) : Int)) none).map _ = _
  rw [cut_drop]
  unfold eI
  rw [← List.map_drop]
  rfl

def PIn (m x y : Int) : Prop := inR m x = true ∧ inR m y = true
include hm in
theorem j_p (acc x8 x9 : Option En) (k : Nat) (l : List Int) (hl : l.length ≥ 4) : ∃ x y : Int, PIn m x y ∧ jP (jN (lI s) m hd acc (jI k) (some (.dat (lI l))) x8 x9) = some (.nx (jN (lI s) m hd acc (jI k) (some (.dat (lI l))) (jI x) (jI y))) := by
  refine ⟨atL l 0 % m, atL l 1 % m, ⟨emod_in _ _ (by omega), emod_in _ _ (by omega)⟩, ?_⟩
  have e1 : b2 (b2 (gD 7) (fun _ => some (.int 0)) oIx) (gD 2) (oIC cMod fun i j => i % j) (jN (lI s) m hd acc (jI k) (some (.dat (lI l))) x8 x9) = some (.int (atL l 0 % m)) :=
    (b2_eq ((b2_eq rfl rfl).trans (at_ok l 0 (by omega))) rfl).trans (md_eq (by omega))
  have e2 : b2 (b2 (gD 7) (fun _ => some (.int 1)) oIx) (gD 2) (oIC cMod fun i j => i % j) (jN (lI s) m hd acc (jI k) (some (.dat (lI l))) x8 x9) = some (.int (atL l 1 % m)) :=
    (b2_eq ((b2_eq rfl rfl).trans (at_ok l 1 (by omega))) rfl).trans (md_eq (by omega))
  unfold jP parS
  rw [e1, Option.bind_some, e2, Option.bind_some]
  rfl
include hm hh in
theorem j_f1 (acc : Option En) (k : Nat) (l : List Int) (x y : Int) (hp : PIn m x y) : ∃ x' y' : Int, PIn m x' y' ∧ jF1 (jN (lI s) m hd acc (jI k) (some (.dat (lI l))) (jI x) (jI y)) = some (.nx (jN (lI s) m hd acc (jI k) (some (.dat (lI l))) (jI x') (jI y'))) := by
  have ec : tb (b2 (b2 (b2 (gD 4) (fun _ => some (.int 1)) oIx) (fun _ => some (.int 4)) (oIC cMod fun i j => i % j)) (fun _ => some (.int 1)) (oEqD false)) (jN (lI s) m hd acc (jI k) (some (.dat (lI l))) (jI x) (jI y)) = some (decide (atL hd 1 % 4 = 1)) :=
    tb_eq ((b2_eq ((b2_eq ((b2_eq rfl rfl).trans (at_ok hd 1 (by omega))) rfl).trans (md_eq (by decide))) rfl).trans (eq_ii _ _))
  cases hb : decide (atL hd 1 % 4 = 1) with
  | true =>
    refine ⟨(k : Int) % m, ((k : Int) + 1) % m, ⟨emod_in _ _ (by omega), emod_in _ _ (by omega)⟩, (ifS_t (ec.trans (congrArg some hb))).trans ?_⟩
    have e1 : b2 (gD 6) (gD 2) (oIC cMod fun i j => i % j) (jN (lI s) m hd acc (jI k) (some (.dat (lI l))) (jI x) (jI y)) = some (.int ((k : Int) % m)) := (b2_eq rfl rfl).trans (md_eq (by omega))
    have e2 : b2 (b2 (gD 6) (fun _ => some (.int 1)) oAdd) (gD 2) (oIC cMod fun i j => i % j) (jN (lI s) m hd acc (jI k) (some (.dat (lI l))) (jI x) (jI y)) = some (.int (((k : Int) + 1) % m)) := (b2_eq ((b2_eq rfl rfl).trans rfl) rfl).trans (md_eq (by omega))
    unfold parS
    rw [e1, Option.bind_some, e2, Option.bind_some]
    rfl
  | false => exact ⟨x, y, hp, (ifS_f (ec.trans (congrArg some hb))).trans rfl⟩
include hm hh in
theorem j_f2 (acc : Option En) (k : Nat) (l : List Int) (hl : l.length ≥ 4) (x y : Int) (hp : PIn m x y) : ∃ x' y' : Int, PIn m x' y' ∧ jF2 (jN (lI s) m hd acc (jI k) (some (.dat (lI l))) (jI x) (jI y)) = some (.nx (jN (lI s) m hd acc (jI k) (some (.dat (lI l))) (jI x') (jI y'))) := by
  have ec : (andT (tb (b2 (b2 (b2 (gD 4) (fun _ => some (.int 1)) oIx) (fun _ => some (.int 4)) (oIC cMod fun i j => i % j)) (fun _ => some (.int 2)) (oEqD false))) (tb (b2 (b2 (b2 (gD 7) (fun _ => some (.int 2)) oIx) (fun _ => some (.int 3)) (oIC cMod fun i j => i % j)) (fun _ => some (.int 0)) (oB fun i j => decide (j < i))))) (jN (lI s) m hd acc (jI k) (some (.dat (lI l))) (jI x) (jI y)) = some (decide (atL hd 1 % 4 = 2) && decide (0 < atL l 2 % 3)) :=
    andT_eq (tb_eq ((b2_eq ((b2_eq ((b2_eq rfl rfl).trans (at_ok hd 1 (by omega))) rfl).trans (md_eq (by decide))) rfl).trans (eq_ii _ _)))
      fun _ => tb_eq ((b2_eq ((b2_eq ((b2_eq rfl rfl).trans (at_ok l 2 (by omega))) rfl).trans (md_eq (by decide))) rfl).trans rfl)
  cases hb : (decide (atL hd 1 % 4 = 2) && decide (0 < atL l 2 % 3)) with
  | true =>
    have hx := (inR_iff.mp hp.1)
    have r1 := inR_iff.mp (emod_in (x / 2 * 2) m (by omega))
    refine ⟨x / 2 * 2 % m, (if x / 2 * 2 % m + 1 < m - 1 then x / 2 * 2 % m + 1 else m - 1), ⟨emod_in _ _ (by omega), inR_iff.mpr ?_⟩, (ifS_t (ec.trans (congrArg some hb))).trans ?_⟩
    · split <;> omega
    · refine (seqS_nx (asg_eq (i := 8) (ρ := jN (lI s) m hd acc (jI k) (some (.dat (lI l))) (jI x) (jI y)) (d := .int (x / 2 * 2 % m)) ?_)).trans ?_
      · exact (b2_eq ((b2_eq ((b2_eq rfl rfl).trans (dv_eq (by decide))) rfl).trans (mul_r (by decide))) rfl).trans (md_eq (by omega))
      · exact asg_eq (i := 9) (ρ := jN (lI s) m hd acc (jI k) (some (.dat (lI l))) (jI (x / 2 * 2 % m)) (jI y)) (d := .int (if x / 2 * 2 % m + 1 < m - 1 then x / 2 * 2 % m + 1 else m - 1)) ((c1_eq (consA_eq ((b2_eq rfl rfl).trans rfl) (consA_eq ((b2_eq rfl rfl).trans rfl) rfl))).trans rfl)
  | false => exact ⟨x, y, hp, (ifS_f (ec.trans (congrArg some hb))).trans rfl⟩
theorem lay_rP (r : List (Int × Int)) : SeqAt.shaped (.list (r.map eP)) = true := LayK.sh (k := 2) (lay_lst fun d hd => by
  obtain ⟨p, _, rfl⟩ := List.mem_map.mp hd
  exact lay_tI [p.1, p.2]) (by decide)
theorem j_f3 (r : List (Int × Int)) (hr : (r.all (prR m)) = true) (k : Nat) (l : List Int) (hl : l.length ≥ 4) (x y : Int) (hp : PIn m x y) : ∃ x' y' : Int, PIn m x' y' ∧ jF3 (jN (lI s) m hd (jO r) (jI k) (some (.dat (lI l))) (jI x) (jI y)) = some (.nx (jN (lI s) m hd (jO r) (jI k) (some (.dat (lI l))) (jI x') (jI y'))) := by
  have ec : (andT (tb (eqO true 5 (lsV (lstV nilA)))) (tb (b2 (b2 (b2 (gD 7) (fun _ => some (.int 2)) oIx) (fun _ => some (.int 7)) (oIC cMod fun i j => i % j)) (fun _ => some (.int 1)) (oEqD false)))) (jN (lI s) m hd (jO r) (jI k) (some (.dat (lI l))) (jI x) (jI y)) = some ((!r.isEmpty) && decide (atL l 2 % 7 = 1)) := by
    refine andT_eq (tb_eq ?_) fun _ => tb_eq ((b2_eq ((b2_eq ((b2_eq rfl rfl).trans (at_ok l 2 (by omega))) rfl).trans (md_eq (by decide))) rfl).trans (eq_ii _ _))
    have e := eq_lnil true (r.map eP) (lay_rP r)
    rw [if_pos rfl, List.isEmpty_map] at e
    exact e
  cases hb : ((!r.isEmpty) && decide (atL l 2 % 7 = 1)) with
  | true =>
    rw [Bool.and_eq_true, Bool.not_eq_true'] at hb
    have h0 : 0 < r.length := by
      cases r with
      | nil => cases hb.1
      | cons a t => rw [List.length_cons]; omega
    have hlen : (r.map eP).length = r.length := List.length_map ..
    have n1 := Int.emod_nonneg (atL l 3) (b := (r.length : Int)) (by omega)
    have n2 := Int.emod_lt_of_pos (atL l 3) (b := (r.length : Int)) (by omega)
    have hj : (atL l 3 % (r.length : Int)).toNat < r.length := by omega
    have hq := List.all_eq_true.mp hr _ (List.getElem_mem hj)
    unfold prR at hq
    rw [Bool.and_eq_true] at hq
    refine ⟨r[(atL l 3 % (r.length : Int)).toNat].1, r[(atL l 3 % (r.length : Int)).toNat].2, hq, (ifS_t (ec.trans (congrArg some (by rw [hb.1, hb.2]; rfl)))).trans ?_⟩
    have e1 : b2 (b2 (gD 7) (fun _ => some (.int 3)) oIx) (lenO 5) (oIC cMod fun i j => i % j) (jN (lI s) m hd (jO r) (jI k) (some (.dat (lI l))) (jI x) (jI y)) = some (.int (atL l 3 % (r.length : Int))) := by
      refine (b2_eq (y := .int (r.length : Int)) ((b2_eq rfl rfl).trans (at_ok l 3 (by omega))) ?_).trans (md_eq (by omega))
      show some (PyData.int ((r.map eP).length : Int)) = _
      rw [hlen]
    have e2 : ixO 5 (b2 (b2 (gD 7) (fun _ => some (.int 3)) oIx) (lenO 5) (oIC cMod fun i j => i % j)) (jN (lI s) m hd (jO r) (jI k) (some (.dat (lI l))) (jI x) (jI y)) = some (eP r[(atL l 3 % (r.length : Int)).toNat]) := by
      unfold ixO
      rw [e1]
      have z := ix_nat (r.map eP) (atL l 3 % (r.length : Int)).toNat (eP r[(atL l 3 % (r.length : Int)).toNat]) (by rw [List.getElem?_map, List.getElem?_eq_getElem hj]; rfl)
      rw [Int.toNat_of_nonneg n1] at z
      exact z
    unfold asgS
    rw [e2]
    rfl
  | false => exact ⟨x, y, hp, (ifS_f (ec.trans (congrArg some hb))).trans rfl⟩
theorem j_ap (r : List (Int × Int)) (hr : r.length ≤ 100) (k : Nat) (l : List Int) (hl : l.length ≥ 4) (x y : Int) (hp : PIn m x y) : ∃ p : Int × Int, prR m p = true ∧ jAp (jN (lI s) m hd (jO r) (jI k) (some (.dat (lI l))) (jI x) (jI y)) = some (.nx (jN (lI s) m hd (jO (r ++ [p])) (jI k) (some (.dat (lI l))) (jI x) (jI y))) := by
  have n1 := Int.emod_nonneg (atL l 2 / 7) (b := 2) (by decide)
  have n2 := Int.emod_lt_of_pos (atL l 2 / 7) (b := 2) (by decide)
  have key : ∀ p : Int × Int, b2 (lsV (lstV (consA (tupV (consA (gD 8) (consA (gD 9) nilA))) (consA (tupV (consA (gD 9) (consA (gD 8) nilA))) nilA)))) (b2 (b2 (b2 (gD 7) (fun _ => some (.int 2)) oIx) (fun _ => some (.int 7)) (oIC cDiv fun i j => i / j)) (fun _ => some (.int 2)) (oIC cMod fun i j => i % j)) oIx (jN (lI s) m hd (jO r) (jI k) (some (.dat (lI l))) (jI x) (jI y)) = some (eP p) → jAp (jN (lI s) m hd (jO r) (jI k) (some (.dat (lI l))) (jI x) (jI y)) = some (.nx (jN (lI s) m hd (jO (r ++ [p])) (jI k) (some (.dat (lI l))) (jI x) (jI y))) := fun p e => by
    show (((gO 5 _).bind fun ds => (b2 _ _ _ _).bind fun x => if ds.length ≤ lim then some (Out.nx (List.set _ 5 (some (.own (ds ++ [x]))))) else none)) = _
    rw [e]
    show (if (r.map eP).length ≤ lim then _ else none) = _
    rw [if_pos (by rw [List.length_map]; exact Nat.le_trans hr (by decide))]
    show _ = some (Out.nx (jN (lI s) m hd (some (.own ((r ++ [p]).map eP))) (jI k) (some (.dat (lI l))) (jI x) (jI y)))
    rw [List.map_append]
    rfl
  have e1 : b2 (b2 (b2 (gD 7) (fun _ => some (.int 2)) oIx) (fun _ => some (.int 7)) (oIC cDiv fun i j => i / j)) (fun _ => some (.int 2)) (oIC cMod fun i j => i % j) (jN (lI s) m hd (jO r) (jI k) (some (.dat (lI l))) (jI x) (jI y)) = some (.int (atL l 2 / 7 % 2)) :=
    (b2_eq ((b2_eq ((b2_eq rfl rfl).trans (at_ok l 2 (by omega))) rfl).trans (dv_eq (by decide))) rfl).trans (md_eq (by decide))
  have c : atL l 2 / 7 % 2 = 0 ∨ atL l 2 / 7 % 2 = 1 := by omega
  rcases c with c | c
  · rw [c] at e1
    refine ⟨(x, y), ?_, key _ ((b2_eq rfl e1).trans rfl)⟩
    unfold prR
    rw [hp.1, hp.2]
    rfl
  · rw [c] at e1
    refine ⟨(y, x), ?_, key _ ((b2_eq rfl e1).trans rfl)⟩
    unfold prR
    rw [hp.1, hp.2]
    rfl
include hs hm hh in
theorem j_step (r : List (Int × Int)) (hr : (r.all (prR m)) = true) (hl : r.length ≤ 100) (x7 x8 x9 : Option En) (k : Nat) (hk : k < 5) : ∃ (p : Int × Int) (y7 y8 y9 : Option En), prR m p = true ∧ jB (jN (lI s) m hd (jO r) (jI k) x7 x8 x9) = some (.nx (jN (lI s) m hd (jO (r ++ [p])) (jI k) y7 y8 y9)) := by
  obtain ⟨l, hl4, e1⟩ := j_xs s m hd hs (jO r) x7 x8 x9 k hk
  obtain ⟨x1, y1, p1, e2⟩ := j_p s m hd hm (jO r) x8 x9 k l hl4
  obtain ⟨x2, y2, p2, e3⟩ := j_f1 s m hd hm hh (jO r) k l x1 y1 p1
  obtain ⟨x3, y3, p3, e4⟩ := j_f2 s m hd hm hh (jO r) k l hl4 x2 y2 p2
  obtain ⟨x4, y4, p4, e5⟩ := j_f3 s m hd r hr k l hl4 x3 y3 p3
  obtain ⟨p, hp, e6⟩ := j_ap s m hd r hl k l hl4 x4 y4 p4
  exact ⟨p, _, _, _, hp, (seqS_nx e1).trans ((seqS_nx e2).trans ((seqS_nx e3).trans ((seqS_nx e4).trans ((seqS_nx e5).trans e6))))⟩
include hs hm hh in
theorem j_loop : ∀ (n k : Nat) (r : List (Int × Int)) (x6 x7 x8 x9 : Option En), k + n ≤ 5 → (r.all (prR m)) = true → r.length + n ≤ 50 → ∃ (r' : List (Int × Int)) (y6 y7 y8 y9 : Option En), r'.length = r.length + n ∧ (r'.all (prR m)) = true ∧ foS (setN 6) jB ((List.range' k n).map fun (i : Nat) => .int (i : Int)) (jN (lI s) m hd (jO r) x6 x7 x8 x9) = some (.nx (jN (lI s) m hd (jO r') y6 y7 y8 y9))
  | 0, k, r, x6, x7, x8, x9, _, hr, _ => ⟨r, x6, x7, x8, x9, rfl, hr, rfl⟩
  | n + 1, k, r, x6, x7, x8, x9, hk, hr, hl => by
    obtain ⟨p, y7, y8, y9, hp, e⟩ := j_step s m hd hs hm hh r hr (by omega) x7 x8 x9 k (by omega)
    obtain ⟨r', z6, z7, z8, z9, h1, h2, e'⟩ := j_loop n (k + 1) (r ++ [p]) (jI k) y7 y8 y9 (by omega) (by rw [List.all_append, hr, List.all_cons, hp]; rfl) (by rw [List.length_append, List.length_singleton]; omega)
    refine ⟨r', z6, z7, z8, z9, by rw [h1, List.length_append, List.length_singleton]; omega, h2, ?_⟩
    rw [List.range'_succ, List.map_cons]
    exact (foS_cons (a := setN 6) rfl e).trans e'
end
theorem joins_ok (s : List Int) (m : Nat) (hs : s.length ≤ 63) (hm : 2 ≤ m ∧ m ≤ 4) : ∃ r : List (Int × Int), r.length ≤ 4 ∧ (r.all fun p => inR m p.1 && inR m p.2) = true ∧ F_law_joins [lI s, .int 0, .int (m : Int), .int 4] = some (tP r) := by
  obtain ⟨c, ec⟩ := cell_ok s 0 hs (by decide)
  obtain ⟨hd, hh, _, en⟩ := numbers_ok c 4 (by decide)
  have n1 := Int.emod_nonneg (atL hd 0) (b := 5) (by decide)
  have n2 := Int.emod_lt_of_pos (atL hd 0) (b := 5) (by decide)
  obtain ⟨r, y6, y7, y8, y9, h1, h2, e⟩ := j_loop s m hd hs (by omega) hh (atL hd 0 % 5).toNat 0 [] none none none none (by omega) rfl (by show 0 + _ ≤ 50; omega)
  refine ⟨r, by rw [h1]; show 0 + _ ≤ 4; omega, h2, runS_rt rfl ((seqS_nx (asg_eq (i := 4) (ρ := [some (.dat (lI s)), some (.dat (.int 0)), some (.dat (.int m)), some (.dat (.int 4)), none, none, none, none, none, none]) (d := lI hd) ?_)).trans ((seqS_nx (ρ' := jN (lI s) m hd (jO []) none none none none) rfl).trans ((seqS_nx ((forS_eq ?_).trans e)).trans ?_)))⟩
  · exact (c1_eq (consA_eq ((c1_eq (consA_eq rfl (consA_eq rfl rfl))).trans ec) (consA_eq rfl rfl))).trans en
  · have e1 : b2 (b2 (gD 4) (fun _ => some (.int 0)) oIx) (b2 (gD 3) (fun _ => some (.int 1)) oAdd) (oIC cMod fun i j => i % j) (jN (lI s) m hd (jO []) none none none none) = some (.int (atL hd 0 % 5)) :=
      (b2_eq ((b2_eq rfl rfl).trans (at_ok hd 0 (by omega))) ((b2_eq rfl rfl).trans rfl)).trans (md_eq (by decide))
    show itR1 _ _ = _
    unfold itR1
    rw [consA_eq e1 rfl]
    show (if rgOk (0, atL hd 0 % 5) = true then some (rgD 0 (atL hd 0 % 5)) else none) = _
    have hk : rgOk (0, atL hd 0 % 5) = true := decide_eq_true (by show (-1000 : Int) ≤ 0 ∧ (0 : Int) ≤ 1000 ∧ -1000 ≤ atL hd 0 % 5 ∧ atL hd 0 % 5 ≤ 1000; omega)
    rw [if_pos hk]
    unfold rgD
    rw [Int.sub_zero, List.range_eq_range']
    congr 1
    refine List.map_congr_left fun i _ => ?_
    rw [Int.zero_add]
  · rfl
end Qd
end
section
set_option Elab.async false
set_option linter.all false
set_option autoImplicit false
set_option maxRecDepth 100000
set_option maxHeartbeats 0
/-! P20: joins from a new store keep a forest: finds by a finite check, then one join, then the row. -/
namespace Qd
open PySem
open PySem.Spec
def stM (w : Str) (l ms : List Int) : D := .tuple [.str w, .str "none", tI l, tI ms]
def jnD (p : Int × Int) : D := .tuple [.str "join", .int p.1, .int p.2]
/-! ### a find: a finite check -/
def findOk (l : List Int) (o : Option D) : Bool := match o with
  | some (.tuple [.int a, .tuple us, .int _]) => inR l.length a && (decide (upN l a.toNat = a.toNat) && match intsD us with
    | some u => decide (u = l)
    | none => false)
  | _ => false
theorem findOk_ok {l : List Int} {o : Option D} (h : findOk l o = true) : ∃ a t : Int, o = some (.tuple [.int a, tI l, .int t]) ∧ inR l.length a = true ∧ upN l a.toNat = a.toNat := by
  unfold findOk at h
  split at h
  · rename_i a us t
    rw [Bool.and_eq_true, Bool.and_eq_true, decide_eq_true_eq] at h
    obtain ⟨h1, h2, h3⟩ := h
    split at h3
    · rename_i u e
      have e2 := of_decide_eq_true h3
      exact ⟨a, t, by rw [intsD_some e, e2]; rfl, h1, h2⟩
    · cases h3
  · cases h
def findChk (l : List Int) : Bool := forceL l fun l => !forB l || (List.range l.length).all fun x => findOk l (F_law_find [tI l, .str "none", .int (x : Int)])
theorem find2 : (rowsN.lastN 2 2).all findChk = true := by kernel_rfl
theorem find3 : (rowsN.lastN 3 3).all findChk = true := by kernel_rfl
theorem find4_0 : (((rowsN.lastN 4 4).drop 0).take 32).all findChk = true := by kernel_rfl
theorem find4_1 : (((rowsN.lastN 4 4).drop 32).take 32).all findChk = true := by kernel_rfl
theorem find4_2 : (((rowsN.lastN 4 4).drop 64).take 32).all findChk = true := by kernel_rfl
theorem find4_3 : (((rowsN.lastN 4 4).drop 96).take 32).all findChk = true := by kernel_rfl
theorem find4_4 : (((rowsN.lastN 4 4).drop 128).take 32).all findChk = true := by kernel_rfl
theorem find4_5 : (((rowsN.lastN 4 4).drop 160).take 32).all findChk = true := by kernel_rfl
theorem find4_6 : (((rowsN.lastN 4 4).drop 192).take 32).all findChk = true := by kernel_rfl
theorem find4_7 : (((rowsN.lastN 4 4).drop 224).take 32).all findChk = true := by kernel_rfl
theorem find4 : (rowsN.lastN 4 4).all findChk = true := by
  refine all_chunk findChk 32 8 _ (by decide +kernel) fun i hi => ?_
  match i, hi with
  | 0, _ => exact find4_0
  | 1, _ => exact find4_1
  | 2, _ => exact find4_2
  | 3, _ => exact find4_3
  | 4, _ => exact find4_4
  | 5, _ => exact find4_5
  | 6, _ => exact find4_6
  | 7, _ => exact find4_7
  | i + 8, h => omega
theorem forB_mem {l : List Int} (h : forB l = true) : l ∈ rowsN.lastN l.length l.length := mem_last l.length l.length l rfl fun i hi => by
  unfold forB at h
  rw [Bool.and_eq_true] at h
  exact inR_nat (List.all_eq_true.mp h.1 i hi)
theorem find_ok {l : List Int} (hl : l.length = 2 ∨ l.length = 3 ∨ l.length = 4) (h : forB l = true) {x : Int} (hx : inR l.length x = true) : ∃ a t : Int, F_law_find [tI l, .str "none", .int x] = some (.tuple [.int a, tI l, .int t]) ∧ inR l.length a = true ∧ upN l a.toNat = a.toNat := by
  have hm := forB_mem h
  have c : findChk l = true := by
    rcases hl with e | e | e
    · rw [e] at hm; exact List.all_eq_true.mp find2 l hm
    · rw [e] at hm; exact List.all_eq_true.mp find3 l hm
    · rw [e] at hm; exact List.all_eq_true.mp find4 l hm
  unfold findChk at c
  rw [forceL_eq, h, Bool.not_true, Bool.false_or] at c
  have r := inR_iff.mp hx
  have z := findOk_ok (List.all_eq_true.mp c x.toNat (List.mem_range.mpr (by omega)))
  rwa [Int.toNat_of_nonneg r.1] at z
def setChk (l : List Int) : Bool := !forB l || (List.range l.length).all fun a => (List.range l.length).all fun b => a == b || (upN l a != a || (upN l b != b || (forB (l.set b (a : Int)))))
theorem set2 : (rowsN.lastN 2 2).all setChk = true := by decide +kernel
theorem set3 : (rowsN.lastN 3 3).all setChk = true := by decide +kernel
theorem set4 : (rowsN.lastN 4 4).all setChk = true := by decide +kernel
/-- a head under another one -/
theorem set_ok {l : List Int} (hl : l.length = 2 ∨ l.length = 3 ∨ l.length = 4) (h : forB l = true) {a b : Int} (ha : inR l.length a = true) (hb : inR l.length b = true) (ua : upN l a.toNat = a.toNat) (ub : upN l b.toNat = b.toNat) (hab : a ≠ b) : forB (l.set b.toNat a) = true := by
  have hm := forB_mem h
  have c : setChk l = true := by
    rcases hl with e | e | e
    · rw [e] at hm; exact List.all_eq_true.mp set2 l hm
    · rw [e] at hm; exact List.all_eq_true.mp set3 l hm
    · rw [e] at hm; exact List.all_eq_true.mp set4 l hm
  unfold setChk at c
  rw [h, Bool.not_true, Bool.false_or] at c
  have ra := inR_iff.mp ha
  have rb := inR_iff.mp hb
  have z := List.all_eq_true.mp (List.all_eq_true.mp c a.toNat (List.mem_range.mpr (by omega))) b.toNat (List.mem_range.mpr (by omega))
  have e1 : (a.toNat == b.toNat) = false := beq_eq_false_iff_ne.mpr (by omega)
  have e2 : (upN l a.toNat != a.toNat) = false := by rw [ua]; exact bne_self_eq_false _
  have e3 : (upN l b.toNat != b.toNat) = false := by rw [ub]; exact bne_self_eq_false _
  rw [e1, e2, e3, Bool.false_or, Bool.false_or, Bool.false_or, Int.toNat_of_nonneg ra.1] at z
  exact z

/-! ### heads linked -/
theorem set_eq {i : Nat} {fi f : Nv → Option D} {ρ : Nv} {u : List Int} {k v : Int} (h1 : f ρ = some (.int v)) (h2 : gO i ρ = some (eI u)) (h3 : fi ρ = some (.int k)) (h0 : 0 ≤ k) (hk : k < u.length) : setS i fi f ρ = some (.nx (ρ.set i (some (.own (eI (u.set k.toNat v)))))) := by
  unfold setS
  rw [h1, Option.bind_some, h2, Option.bind_some, h3, Option.bind_some]
  show (some k).bind _ = _
  rw [Option.bind_some]
  have e3 : L2.ixN (eI u).length k = some k.toNat := by
    unfold L2.ixN
    rw [eI_len, if_pos h0, if_pos (by omega)]
  rw [e3]
  have es : (eI u).set k.toNat (.int v) = eI (u.set k.toNat v) := by unfold eI; rw [List.map_set]
  show some (Out.nx (ρ.set i (some (.own ((eI u).set k.toNat (.int v)))))) = _
  rw [es]
theorem ixO_eq {i : Nat} {f : Nv → Option D} {ρ : Nv} {u : List Int} {k : Int} (h2 : gO i ρ = some (eI u)) (h3 : f ρ = some (.int k)) (h0 : 0 ≤ k) (hk : k < u.length) : ixO i f ρ = some (.int (atL u k.toNat)) := by
  unfold ixO
  rw [h2, Option.bind_some, h3, Option.bind_some]
  show (some k).bind _ = _
  rw [Option.bind_some]
  have z := at_ok u k.toNat (by omega)
  rw [Int.toNat_of_nonneg h0] at z
  exact z
abbrev kN (w : Str) (u ms : List Int) (a b : Int) (x5 x6 : Option En) : Nv := [some (.dat (.str w)), some (.own (eI u)), some (.own (eI ms)), some (.dat (.int a)), some (.dat (.int b)), x5, x6]
abbrev kC : Nv → Option Bool := orT (andT (tb (b2 (gD 0) (tupV (consA (fun _ => some (.str "size")) (consA (fun _ => some (.str "rank")) nilA))) (oIn false))) (tb (b2 (ixO 2 (gD 4)) (ixO 2 (gD 3)) (oB fun i j => decide (j < i))))) (andT (tb (b2 (gD 0) (fun _ => some (.str "names")) (oEqD false))) (tb (b2 (gD 4) (gD 3) (oB fun i j => decide (i < j)))))
theorem k_words {w : Str} (hw : w ∈ jw) : ∃ b1 b2' b3 b4 : Bool, ∀ (u ms : List Int) (a b : Int) (x5 x6 : Option En),
    (b2 (gD 0) (tupV (consA (fun _ => some (.str "size")) (consA (fun _ => some (.str "rank")) nilA))) (oIn false)) (kN w u ms a b x5 x6) = some (.bool b1) ∧
    (b2 (gD 0) (fun _ => some (.str "names")) (oEqD false)) (kN w u ms a b x5 x6) = some (.bool b2') ∧
    (b2 (gD 0) (fun _ => some (.str "size")) (oEqD false)) (kN w u ms a b x5 x6) = some (.bool b3) ∧
    (b2 (gD 0) (fun _ => some (.str "rank")) (oEqD false)) (kN w u ms a b x5 x6) = some (.bool b4) := by
  simp only [jw, List.mem_cons, List.not_mem_nil, or_false] at hw
  rcases hw with rfl | rfl | rfl | rfl
  · exact ⟨true, false, true, false, fun _ _ _ _ _ _ => ⟨by kernel_rfl, by kernel_rfl, by kernel_rfl, by kernel_rfl⟩⟩
  · exact ⟨true, false, false, true, fun _ _ _ _ _ _ => ⟨by kernel_rfl, by kernel_rfl, by kernel_rfl, by kernel_rfl⟩⟩
  · exact ⟨false, false, false, false, fun _ _ _ _ _ _ => ⟨by kernel_rfl, by kernel_rfl, by kernel_rfl, by kernel_rfl⟩⟩
  · exact ⟨false, true, false, false, fun _ _ _ _ _ _ => ⟨by kernel_rfl, by kernel_rfl, by kernel_rfl, by kernel_rfl⟩⟩
theorem linked_ok {w : Str} (hw : w ∈ jw) {u ms : List Int} (hm : ms.length = u.length) {a b : Int} (ha : inR u.length a = true) (hb : inR u.length b = true) : ∃ (s g : Int) (ms' : List Int), ((s = a ∧ g = b) ∨ (s = b ∧ g = a)) ∧ ms'.length = u.length ∧ F_law_linked [.str w, tI u, tI ms, .int a, .int b] = some (.tuple [tI (u.set g.toNat s), tI ms']) := by
  obtain ⟨b1, b2', b3, b4, W⟩ := k_words hw
  have ra := inR_iff.mp ha
  have rb := inR_iff.mp hb
  have c0 : kC (kN w u ms a b (some (.dat (.int a))) (some (.dat (.int b)))) = some ((b1 && decide (atL ms a.toNat < atL ms b.toNat)) || (b2' && decide (b < a))) :=
    orT_eq (andT_eq (tb_eq (W _ _ _ _ _ _).1) fun _ => tb_eq ((b2_eq (ixO_eq rfl rfl rb.1 (by omega)) (ixO_eq rfl rfl ra.1 (by omega))).trans rfl)) fun _ => andT_eq (tb_eq (W _ _ _ _ _ _).2.1) fun _ => tb_eq ((b2_eq rfl rfl).trans rfl)
  obtain ⟨s, g, hsg, c1⟩ : ∃ s g : Int, ((s = a ∧ g = b) ∨ (s = b ∧ g = a)) ∧ (ifS kC (parS 5 6 (gD 4) (gD 3)) nextS) (kN w u ms a b (some (.dat (.int a))) (some (.dat (.int b)))) = some (.nx (kN w u ms a b (some (.dat (.int s))) (some (.dat (.int g))))) := by
    cases hb : ((b1 && decide (atL ms a.toNat < atL ms b.toNat)) || (b2' && decide (b < a))) with
    | true => rw [hb] at c0; exact ⟨b, a, .inr ⟨rfl, rfl⟩, (ifS_t c0).trans rfl⟩
    | false => rw [hb] at c0; exact ⟨a, b, .inl ⟨rfl, rfl⟩, (ifS_f c0).trans rfl⟩
  have rs : (0 ≤ s ∧ s < (u.length : Int)) ∧ 0 ≤ g ∧ g < (u.length : Int) := by omega
  have c2 : setS 1 (gD 6) (gD 5) (kN w u ms a b (some (.dat (.int s))) (some (.dat (.int g)))) = some (.nx (kN w (u.set g.toNat s) ms a b (some (.dat (.int s))) (some (.dat (.int g))))) := set_eq (i := 1) rfl rfl rfl rs.2.1 rs.2.2
  obtain ⟨m1, hm1, c3⟩ : ∃ m1 : List Int, m1.length = u.length ∧ (ifS (tb (b2 (gD 0) (fun _ => some (.str "size")) (oEqD false))) (setS 2 (gD 5) (b2 (ixO 2 (gD 5)) (ixO 2 (gD 6)) oAdd)) nextS) (kN w (u.set g.toNat s) ms a b (some (.dat (.int s))) (some (.dat (.int g)))) = some (.nx (kN w (u.set g.toNat s) m1 a b (some (.dat (.int s))) (some (.dat (.int g))))) := by
    cases b3 with
    | true => exact ⟨ms.set s.toNat (atL ms s.toNat + atL ms g.toNat), by rw [List.length_set, hm], (ifS_t (tb_eq (W _ _ _ _ _ _).2.2.1)).trans (set_eq (i := 2) ((b2_eq (ixO_eq rfl rfl rs.1.1 (by omega)) (ixO_eq rfl rfl rs.2.1 (by omega))).trans rfl) rfl rfl rs.1.1 (by omega))⟩
    | false => exact ⟨ms, hm, (ifS_f (tb_eq (W _ _ _ _ _ _).2.2.1)).trans rfl⟩
  obtain ⟨m2, hm2, c4⟩ : ∃ m2 : List Int, m2.length = u.length ∧ (ifS (andT (tb (b2 (gD 0) (fun _ => some (.str "rank")) (oEqD false))) (tb (b2 (ixO 2 (gD 5)) (ixO 2 (gD 6)) (oEqD false)))) (setS 2 (gD 5) (b2 (ixO 2 (gD 5)) (fun _ => some (.int 1)) oAdd)) nextS) (kN w (u.set g.toNat s) m1 a b (some (.dat (.int s))) (some (.dat (.int g)))) = some (.nx (kN w (u.set g.toNat s) m2 a b (some (.dat (.int s))) (some (.dat (.int g))))) := by
    have c : (andT (tb (b2 (gD 0) (fun _ => some (.str "rank")) (oEqD false))) (tb (b2 (ixO 2 (gD 5)) (ixO 2 (gD 6)) (oEqD false)))) (kN w (u.set g.toNat s) m1 a b (some (.dat (.int s))) (some (.dat (.int g)))) = some (b4 && decide (atL m1 s.toNat = atL m1 g.toNat)) :=
      andT_eq (tb_eq (W _ _ _ _ _ _).2.2.2) fun _ => tb_eq ((b2_eq (ixO_eq rfl rfl rs.1.1 (by omega)) (ixO_eq rfl rfl rs.2.1 (by omega))).trans (eq_ii _ _))
    cases hb : (b4 && decide (atL m1 s.toNat = atL m1 g.toNat)) with
    | true =>
      rw [hb] at c
      exact ⟨m1.set s.toNat (atL m1 s.toNat + 1), by rw [List.length_set, hm1], (ifS_t c).trans (set_eq (i := 2) ((b2_eq (ixO_eq rfl rfl rs.1.1 (by omega)) rfl).trans rfl) rfl rfl rs.1.1 (by omega))⟩
    | false =>
      rw [hb] at c
      exact ⟨m1, hm1, (ifS_f c).trans rfl⟩
  refine ⟨s, g, m2, hsg, hm2, runS_rt rfl ((seqS_nx (ρ' := kN w u ms a b none none) rfl).trans ((seqS_nx (ρ' := kN w u ms a b (some (.dat (.int a))) (some (.dat (.int b)))) rfl).trans ((seqS_nx c1).trans ((seqS_nx c2).trans ((seqS_nx c3).trans ((seqS_nx c4).trans ?_))))))⟩
  rfl
/-! ### a join -/
abbrev gN (st jn : D) (w : Str) (l ms : List Int) (x6 x7 x8 x9 : Option En) : Nv := [some (.dat st), some (.dat jn), some (.dat (.str w)), some (.dat (.str "none")), some (.dat (tI l)), some (.dat (tI ms)), x6, x7, x8, x9]
theorem deed_ok {l ms : List Int} (hl : l.length = 2 ∨ l.length = 3 ∨ l.length = 4) (h : forB l = true) (hm : ms.length = l.length) {w : Str} (hw : w ∈ jw) {p : Int × Int} (hp : (inR l.length p.1 && inR l.length p.2) = true) : ∃ (u ms' : List Int) (a t : D), F_law_deed [stM w l ms, jnD p] = some (.tuple [stM w u ms', a, t]) ∧ forB u = true ∧ u.length = l.length ∧ ms'.length = l.length := by
  rw [Bool.and_eq_true] at hp
  obtain ⟨a, t, e1, ra, ua⟩ := find_ok hl h hp.1
  obtain ⟨b, t2, e2, rb, ub⟩ := find_ok hl h hp.2
  have g0 : asgS (gD 0) (tupG 4 (consG (setN 2) (consG (setN 3) (consG (setN 4) (consG (setN 5) nilG))))) (startN 2 10 [stM w l ms, jnD p]) = some (.nx (gN (stM w l ms) (jnD p) w l ms none none none none)) := rfl
  have g1 : asgS (c1 (consA (gD 4) (consA (gD 3) (consA (b2 (gD 1) (fun _ => some (.int 1)) oIx) nilA))) F_law_find) (tupG 3 (consG (setN 6) (consG (setN 4) (consG (setN 7) nilG)))) (gN (stM w l ms) (jnD p) w l ms none none none none) = some (.nx (gN (stM w l ms) (jnD p) w l ms (some (.dat (.int a))) (some (.dat (.int t))) none none)) := by
    unfold asgS
    rw [c1_eq (consA_eq rfl (consA_eq rfl (consA_eq (x := .int p.1) rfl rfl))), e1]
    rfl
  have g2 : (ifS (tb (b2 (b2 (gD 1) (fun _ => some (.int 0)) oIx) (fun _ => some (.str "find")) (oEqD false))) (retS (tupV (consA (tupV (consA (gD 2) (consA (gD 3) (consA (gD 4) (consA (gD 5) nilA))))) (consA (gD 6) (consA (gD 7) nilA))))) nextS) (gN (stM w l ms) (jnD p) w l ms (some (.dat (.int a))) (some (.dat (.int t))) none none) = some (.nx (gN (stM w l ms) (jnD p) w l ms (some (.dat (.int a))) (some (.dat (.int t))) none none)) :=
    (ifS_f (tb_eq ((b2_eq (x := .str "join") (y := .str "find") rfl rfl).trans (by kernel_rfl)))).trans rfl
  have g3 : asgS (c1 (consA (gD 4) (consA (gD 3) (consA (b2 (gD 1) (fun _ => some (.int 2)) oIx) nilA))) F_law_find) (tupG 3 (consG (setN 8) (consG (setN 4) (consG (setN 9) nilG)))) (gN (stM w l ms) (jnD p) w l ms (some (.dat (.int a))) (some (.dat (.int t))) none none) = some (.nx (gN (stM w l ms) (jnD p) w l ms (some (.dat (.int a))) (some (.dat (.int t))) (some (.dat (.int b))) (some (.dat (.int t2))))) := by
    unfold asgS
    rw [c1_eq (consA_eq rfl (consA_eq rfl (consA_eq (x := .int p.2) rfl rfl))), e2]
    rfl
  have ne : ∀ (u ms' : List Int), (b2 (gD 6) (gD 8) (oEqD true)) (gN (stM w l ms) (jnD p) w u ms' (some (.dat (.int a))) (some (.dat (.int t))) (some (.dat (.int b))) (some (.dat (.int t2)))) = some (.bool (!decide (a = b))) := fun u ms' => (b2_eq rfl rfl).trans (ne_ii a b)
  have last : ∀ (u ms' : List Int), retS (tupV (consA (tupV (consA (gD 2) (consA (gD 3) (consA (gD 4) (consA (gD 5) nilA))))) (consA (b2 (gD 6) (gD 8) (oEqD true)) (consA (b2 (gD 7) (gD 9) oAdd) nilA)))) (gN (stM w l ms) (jnD p) w u ms' (some (.dat (.int a))) (some (.dat (.int t))) (some (.dat (.int b))) (some (.dat (.int t2)))) = some (.rt (.tuple [stM w u ms', .bool (!decide (a = b)), .int (t + t2)])) := fun u ms' => by
    refine ret_eq ?_
    unfold tupV
    rw [consA_eq (x := stM w u ms') rfl (consA_eq (ne u ms') (consA_eq (x := .int (t + t2)) rfl rfl))]
    rfl
  by_cases hab : a = b
  · have ec := tb_eq (ne l ms)
    rw [decide_eq_true hab] at ec
    exact ⟨l, ms, _, _, runS_rt rfl ((seqS_nx g0).trans ((seqS_nx g1).trans ((seqS_nx g2).trans ((seqS_nx g3).trans ((seqS_nx ((ifS_f ec).trans rfl)).trans (last l ms)))))), h, rfl, hm⟩
  · have ec := tb_eq (ne l ms)
    rw [decide_eq_false hab] at ec
    obtain ⟨s, g, ms', hsg, hm', e3⟩ := linked_ok hw hm ra rb
    have g4 : asgS (c1 (consA (gD 2) (consA (gD 4) (consA (gD 5) (consA (gD 6) (consA (gD 8) nilA))))) F_law_linked) (tupG 2 (consG (setN 4) (consG (setN 5) nilG))) (gN (stM w l ms) (jnD p) w l ms (some (.dat (.int a))) (some (.dat (.int t))) (some (.dat (.int b))) (some (.dat (.int t2)))) = some (.nx (gN (stM w l ms) (jnD p) w (l.set g.toNat s) ms' (some (.dat (.int a))) (some (.dat (.int t))) (some (.dat (.int b))) (some (.dat (.int t2))))) := by
      unfold asgS
      rw [c1_eq (consA_eq rfl (consA_eq rfl (consA_eq rfl (consA_eq rfl (consA_eq rfl rfl))))), e3]
      rfl
    have fu : forB (l.set g.toNat s) = true := by
      rcases hsg with ⟨rfl, rfl⟩ | ⟨rfl, rfl⟩
      · exact set_ok hl h ra rb ua ub hab
      · exact set_ok hl h rb ra ub ua (fun z => hab z.symm)
    exact ⟨l.set g.toNat s, ms', _, _, runS_rt rfl ((seqS_nx g0).trans ((seqS_nx g1).trans ((seqS_nx g2).trans ((seqS_nx g3).trans ((seqS_nx ((ifS_t ec).trans g4)).trans (last _ ms')))))), fu, List.length_set, hm'⟩
/-! ### a row of joins -/
abbrev rnN (st ds : D) (x2 : Option En) (as ts : List D) (x5 x6 : Option En) : Nv := [some (.dat st), some (.dat ds), x2, some (.own as), some (.own ts), x5, x6]
abbrev rnB : Gs := seqS (asgS (c1 (consA (gD 0) (consA (gD 2) nilA)) F_law_deed) (tupG 3 (consG (setN 0) (consG (setN 5) (consG (setN 6) nilG))))) (seqS (appS 3 (gD 5)) (appS 4 (gD 6)))
theorem rn_loop {n : Nat} (hn : n = 2 ∨ n = 3 ∨ n = 4) {w : Str} (hw : w ∈ jw) (ds : D) : ∀ (r : List (Int × Int)) (l ms : List Int) (x2 : Option En) (as ts : List D) (x5 x6 : Option En), l.length = n → ms.length = n → forB l = true → (r.all fun p => inR n p.1 && inR n p.2) = true → as.length + r.length ≤ 100 → ts.length + r.length ≤ 100 → ∃ (u ms' : List Int) (y2 : Option En) (as' ts' : List D) (y5 y6 : Option En), u.length = n ∧ forB u = true ∧ foS (setN 2) rnB (r.map jnD) (rnN (stM w l ms) ds x2 as ts x5 x6) = some (.nx (rnN (stM w u ms') ds y2 as' ts' y5 y6))
  | [], l, ms, x2, as, ts, x5, x6, hl, _, hf, _, _, _ => ⟨l, ms, x2, as, ts, x5, x6, hl, hf, rfl⟩
  | p :: r, l, ms, x2, as, ts, x5, x6, hl, hms, hf, hr, h1, h2 => by
    rw [List.all_cons, Bool.and_eq_true] at hr
    rw [List.length_cons] at h1 h2
    obtain ⟨u, m1, a, t, e, fu, lu, lm⟩ := deed_ok (p := p) (ms := ms) (by rw [hl]; exact hn) hf (by rw [hl, hms]) hw (by rw [hl]; exact hr.1)
    obtain ⟨u', m2, y2, as', ts', y5, y6, g1, g2, e'⟩ := rn_loop hn hw ds r u m1 (some (.dat (jnD p))) (as ++ [a]) (ts ++ [t]) (some (.dat a)) (some (.dat t)) (lu.trans hl) (lm.trans hl) fu hr.2 (by rw [List.length_append, List.length_singleton]; omega) (by rw [List.length_append, List.length_singleton]; omega)
    refine ⟨u', m2, y2, as', ts', y5, y6, g1, g2, ?_⟩
    have q1 : asgS (c1 (consA (gD 0) (consA (gD 2) nilA)) F_law_deed) (tupG 3 (consG (setN 0) (consG (setN 5) (consG (setN 6) nilG)))) (rnN (stM w l ms) ds (some (.dat (jnD p))) as ts x5 x6) = some (.nx (rnN (stM w u m1) ds (some (.dat (jnD p))) as ts (some (.dat a)) (some (.dat t)))) := by
      unfold asgS
      rw [c1_eq (consA_eq rfl (consA_eq rfl rfl)), e]
      rfl
    have q2 : appS 3 (gD 5) (rnN (stM w u m1) ds (some (.dat (jnD p))) as ts (some (.dat a)) (some (.dat t))) = some (.nx (rnN (stM w u m1) ds (some (.dat (jnD p))) (as ++ [a]) ts (some (.dat a)) (some (.dat t)))) := by
      show (if as.length ≤ lim then _ else none) = _
      rw [if_pos (Nat.le_trans (by omega : as.length ≤ 100) (by decide))]
      rfl
    have q3 : appS 4 (gD 6) (rnN (stM w u m1) ds (some (.dat (jnD p))) (as ++ [a]) ts (some (.dat a)) (some (.dat t))) = some (.nx (rnN (stM w u m1) ds (some (.dat (jnD p))) (as ++ [a]) (ts ++ [t]) (some (.dat a)) (some (.dat t)))) := by
      show (if ts.length ≤ lim then _ else none) = _
      rw [if_pos (Nat.le_trans (by omega : ts.length ≤ 100) (by decide))]
      rfl
    have e1 : rnB (rnN (stM w l ms) ds (some (.dat (jnD p))) as ts x5 x6) = some (.nx (rnN (stM w u m1) ds (some (.dat (jnD p))) (as ++ [a]) (ts ++ [t]) (some (.dat a)) (some (.dat t)))) :=
      (seqS_nx q1).trans ((seqS_nx q2).trans q3)
    exact (foS_cons (a := setN 2) rfl e1).trans e'
def mk0 (w : Str) (n : Nat) : List Int := List.replicate n (if w = "size" then 1 else 0)
theorem new2 : jw.map (fun w => F_law_new [.int 2, .str w, .str "none"]) = jw.map fun w => some (stM w [0, 1] (mk0 w 2)) := by kernel_rfl
theorem new3 : jw.map (fun w => F_law_new [.int 3, .str w, .str "none"]) = jw.map fun w => some (stM w [0, 1, 2] (mk0 w 3)) := by kernel_rfl
theorem new4 : jw.map (fun w => F_law_new [.int 4, .str w, .str "none"]) = jw.map fun w => some (stM w [0, 1, 2, 3] (mk0 w 4)) := by kernel_rfl
theorem new_ok {n : Nat} (hn : n = 2 ∨ n = 3 ∨ n = 4) {w : Str} (hw : w ∈ jw) : F_law_new [.int (n : Int), .str w, .str "none"] = some (stM w (ksN n) (mk0 w n)) ∧ forB (ksN n) = true ∧ (ksN n).length = n := by
  rcases hn with rfl | rfl | rfl
  · exact ⟨map_at new2 w hw, by decide +kernel, rfl⟩
  · exact ⟨map_at new3 w hw, by decide +kernel, rfl⟩
  · exact ⟨map_at new4 w hw, by decide +kernel, rfl⟩
theorem run_ok {n : Nat} (hn : n = 2 ∨ n = 3 ∨ n = 4) {w : Str} (hw : w ∈ jw) (r : List (Int × Int)) (hl : r.length ≤ 50) (hr : (r.all fun p => inR n p.1 && inR n p.2) = true) : ∃ (u : List Int) (ms : List Int) (a t : D), u.length = n ∧ forB u = true ∧ F_law_run [stM w (ksN n) (mk0 w n), .list (r.map jnD)] = some (.tuple [stM w u ms, a, t]) := by
  obtain ⟨-, hf, hk⟩ := new_ok hn hw
  obtain ⟨u, ms, y2, as, ts, y5, y6, h1, h2, e⟩ := rn_loop hn hw (.list (r.map jnD)) r (ksN n) (mk0 w n) none [] [] none none hk (List.length_replicate ..) hf hr (by simp; omega) (by simp; omega)
  refine ⟨u, ms, .list as, .list ts, h1, h2, runS_rt rfl ((seqS_nx (ρ' := rnN (stM w (ksN n) (mk0 w n)) (.list (r.map jnD)) none [] [] none none) rfl).trans ((seqS_nx ((forS_eq ?_).trans e)).trans rfl))⟩
  exact itL_eq rfl (by rw [List.length_map]; omega)
end Qd
end
section
set_option Elab.async false
set_option linter.all false
set_option autoImplicit false
set_option maxRecDepth 100000
set_option maxHeartbeats 1000000
/-! P21: the law's drawn forest is one. -/
namespace Qd
open PySem
open PySem.Spec
def stepU (pl u : List Int) (k : Nat) (o : Option Nat) : List Int := match o with
  | none => u
  | some a => u.set (atL pl k).toNat (atL pl a)
def outsU (pl : List Int) : Nat → Nat → List Int → List (List Int)
  | _, 0, u => [u]
  | k, n + 1, u => (none :: (List.range (k + 1)).map some).flatMap fun o => outsU pl (k + 1) n (stepU pl u k o)
def plB (l : List Int) : Bool := (List.range l.length).all fun i => (List.range l.length).all fun j => i == j || atL l i != atL l j
def outsChk (l : List Int) : Bool := !plB l || (outsU l 1 (l.length - 1) (ksN l.length)).all fun u => forB u && decide (u.length = l.length)
theorem outs2 : (rowsN.lastN 2 2).all outsChk = true := by decide +kernel
theorem outs3 : (rowsN.lastN 3 3).all outsChk = true := by decide +kernel
theorem outs4 : (rowsN.lastN 4 4).all outsChk = true := by decide +kernel
theorem outs_ok {l u : List Int} (hl : l.length = 2 ∨ l.length = 3 ∨ l.length = 4) (hr : ∀ i ∈ l, 0 ≤ i ∧ i < (l.length : Int)) (hp : plB l = true) (hu : u ∈ outsU l 1 (l.length - 1) (ksN l.length)) : forB u = true ∧ u.length = l.length := by
  have hm := mem_last l.length l.length l rfl hr
  have c : outsChk l = true := by
    rcases hl with e | e | e
    · rw [e] at hm; exact List.all_eq_true.mp outs2 l hm
    · rw [e] at hm; exact List.all_eq_true.mp outs3 l hm
    · rw [e] at hm; exact List.all_eq_true.mp outs4 l hm
  unfold outsChk at c
  rw [hp, Bool.not_true, Bool.false_or] at c
  have z := List.all_eq_true.mp c u hu
  rw [Bool.and_eq_true, decide_eq_true_eq] at z
  exact z
theorem plB_of {l : List Int} (h : l.Nodup) : plB l = true := by
  refine List.all_eq_true.mpr fun i hi => List.all_eq_true.mpr fun j hj => ?_
  have hi := List.mem_range.mp hi
  have hj := List.mem_range.mp hj
  by_cases e : i = j
  · rw [e]; simp
  · have : atL l i ≠ atL l j := fun z => by
      have a := atL_some hi
      have b := atL_some hj
      rw [← z] at b
      exact e ((List.getElem?_inj hi h).mp (a.trans b.symm))
    rw [bne_iff_ne.mpr this, Bool.or_true]

/-! ### the order of the things -/
def unI : D → Int
  | .int i => i
  | _ => 0
def snd2 : D → D
  | .tuple [_, b] => b
  | _ => .none
theorem perm_ints {ds : List D} {l : List Int} (h : ds.Perm (eI l)) : ∃ pl : List Int, ds = eI pl ∧ pl.Perm l := by
  refine ⟨ds.map unI, ?_, ?_⟩
  · show ds = (ds.map unI).map PyData.int
    rw [List.map_map]
    have : ∀ d ∈ ds, (PyData.int ∘ unI) d = d := fun d hd => by
      obtain ⟨i, _, rfl⟩ := List.mem_map.mp (h.mem_iff.mp hd)
      rfl
    rw [List.map_congr_left this, List.map_id']
  · have z := h.map unI
    unfold eI at z
    rw [List.map_map] at z
    have e : unI ∘ PyData.int = id := rfl
    rwa [e, List.map_id] at z
abbrev foN (xs : List Int) (m : Int) (n2 : Option En) (pl : List Int) (u : List Int) (kd : Int) (x6 x7 : Option En) : Nv := [some (.dat (lI xs)), some (.dat (.int m)), n2, some (.dat (lI pl)), some (.own (eI u)), some (.dat (.int kd)), x6, x7, none]
abbrev foA : Nv → Option D := b2 (lsV (lstV (consA (b2 (b2 (b2 (gD 0) (b2 (gD 3) (gD 6) oIx) oIx) (fun _ => some (.int 9973)) (oIC cDiv fun i j => i / j)) (gD 6) (oIC cMod fun i j => i % j)) (consA (b2 (gD 6) (fun _ => some (.int 1)) (oI fun i j => i - j)) (consA (fun _ => some (.int 0)) (consA (gD 6) (consA (b2 (gD 6) (b2 (gD 6) (b2 (fun _ => some (.int 0)) (gD 6) (oI fun i j => i - j)) (oI fun i j => Builtin.bitAnd i j)) (oI fun i j => i - j)) nilA))))))) (gD 5) oIx
abbrev foI : Gs := ifS (orT (tb (b2 (gD 5) (fun _ => some (.int 0)) (oEqD true))) (tb (b2 (b2 (b2 (b2 (gD 0) (b2 (gD 3) (gD 6) oIx) oIx) (fun _ => some (.int 1000)) (oIC cDiv fun i j => i / j)) (fun _ => some (.int 4)) (oIC cMod fun i j => i % j)) (fun _ => some (.int 0)) (oB fun i j => decide (j < i))))) (setS 4 (b2 (gD 3) (gD 6) oIx) (b2 (gD 3) (gD 7) oIx)) nextS
abbrev foB : Gs := seqS (asgS foA (setN 7)) foI
theorem at_it (l : List Int) {i : Int} (h0 : 0 ≤ i) (h : i < l.length) : oIx (lI l) (.int i) = some (.int (atL l i.toNat)) := by
  have z := at_ok l i.toNat (by omega)
  rwa [Int.toNat_of_nonneg h0] at z
theorem bits_k {k : Nat} (h : k = 1 ∨ k = 2 ∨ k = 3) : ∃ a : Nat, a ≤ k ∧ (k : Int) - Builtin.bitAnd (k : Int) (0 - (k : Int)) = (a : Int) := by
  rcases h with rfl | rfl | rfl
  · exact ⟨0, by decide, by decide +kernel⟩
  · exact ⟨0, by decide, by decide +kernel⟩
  · exact ⟨2, by decide, by decide +kernel⟩
section
variable (xs pl : List Int) (m : Nat) (hm : m = 2 ∨ m = 3 ∨ m = 4) (hx : m ≤ xs.length) (hl : pl.length = m) (hp : ∀ i ∈ pl, 0 ≤ i ∧ i < (m : Int)) (kd : Nat) (hk : kd < 5) (n2 : Option En)
include hx hl hp in
theorem fo_x (u : List Int) (x7 : Option En) (k : Nat) (h : k < m) : ∃ v : Int, (b2 (gD 0) (b2 (gD 3) (gD 6) oIx) oIx) (foN xs m n2 pl u kd (jI k) x7) = some (.int v) := by
  have b := hp _ (List.mem_of_getElem? (atL_some (by omega : k < pl.length)))
  exact ⟨_, (b2_eq rfl ((b2_eq rfl rfl).trans (at_ok pl k (by omega)))).trans (at_it xs b.1 (by omega))⟩
include hm hx hl hp hk in
theorem fo_a (u : List Int) (x7 : Option En) (k : Nat) (h0 : 1 ≤ k) (h : k < m) : ∃ a : Nat, a ≤ k ∧ foA (foN xs m n2 pl u kd (jI k) x7) = some (.int (a : Int)) := by
  obtain ⟨v, ev⟩ := fo_x xs pl m hx hl hp kd n2 u x7 k h
  obtain ⟨b, hb, eb⟩ := bits_k (k := k) (by omega)
  have r1 := Int.emod_nonneg (v / 9973) (b := (k : Int)) (by omega)
  have r2 := Int.emod_lt_of_pos (v / 9973) (b := (k : Int)) (by omega)
  have e1 : (b2 (b2 (b2 (gD 0) (b2 (gD 3) (gD 6) oIx) oIx) (fun _ => some (.int 9973)) (oIC cDiv fun i j => i / j)) (gD 6) (oIC cMod fun i j => i % j)) (foN xs m n2 pl u kd (jI k) x7) = some (.int (v / 9973 % (k : Int))) :=
    (b2_eq ((b2_eq ev rfl).trans (dv_eq (by decide))) rfl).trans (md_eq (by omega))
  have e2 : (lsV (lstV (consA (b2 (b2 (b2 (gD 0) (b2 (gD 3) (gD 6) oIx) oIx) (fun _ => some (.int 9973)) (oIC cDiv fun i j => i / j)) (gD 6) (oIC cMod fun i j => i % j)) (consA (b2 (gD 6) (fun _ => some (.int 1)) (oI fun i j => i - j)) (consA (fun _ => some (.int 0)) (consA (gD 6) (consA (b2 (gD 6) (b2 (gD 6) (b2 (fun _ => some (.int 0)) (gD 6) (oI fun i j => i - j)) (oI fun i j => Builtin.bitAnd i j)) (oI fun i j => i - j)) nilA))))))) (foN xs m n2 pl u kd (jI k) x7) = some (lI [v / 9973 % (k : Int), (k : Int) - 1, 0, k, b]) := by
    unfold lsV lstV
    rw [consA_eq e1 (consA_eq (x := .int ((k : Int) - 1)) rfl (consA_eq (x := .int 0) rfl (consA_eq (x := .int k) rfl (consA_eq (x := .int b) (by rw [← eb]; rfl) rfl))))]
    rfl
  have e3 : foA (foN xs m n2 pl u kd (jI k) x7) = some (.int (atL [v / 9973 % (k : Int), (k : Int) - 1, 0, k, b] kd)) := (b2_eq e2 rfl).trans (at_ok _ kd hk)
  match kd, hk, e3 with
  | 0, _, e3 => exact ⟨(v / 9973 % (k : Int)).toNat, by omega, by rw [Int.toNat_of_nonneg r1]; exact e3⟩
  | 1, _, e3 => exact ⟨k - 1, by omega, by rw [Int.natCast_sub h0]; exact e3⟩
  | 2, _, e3 => exact ⟨0, by omega, e3⟩
  | 3, _, e3 => exact ⟨k, by omega, e3⟩
  | 4, _, e3 => exact ⟨b, hb, e3⟩
  | kd + 5, hk, _ => omega
include hx hl hp in
theorem fo_i (u : List Int) (hu : u.length = m) (k a : Nat) (h : k < m) (ha : a ≤ k) : ∃ o ∈ (none :: (List.range (k + 1)).map some), foI (foN xs m n2 pl u kd (jI k) (jI a)) = some (.nx (foN xs m n2 pl (stepU pl u k o) kd (jI k) (jI a))) := by
  obtain ⟨v, ev⟩ := fo_x xs pl m hx hl hp kd n2 u (jI a) k h
  have b := hp _ (List.mem_of_getElem? (atL_some (by omega : k < pl.length)))
  have ec : (orT (tb (b2 (gD 5) (fun _ => some (.int 0)) (oEqD true))) (tb (b2 (b2 (b2 (b2 (gD 0) (b2 (gD 3) (gD 6) oIx) oIx) (fun _ => some (.int 1000)) (oIC cDiv fun i j => i / j)) (fun _ => some (.int 4)) (oIC cMod fun i j => i % j)) (fun _ => some (.int 0)) (oB fun i j => decide (j < i))))) (foN xs m n2 pl u kd (jI k) (jI a)) = some ((!decide ((kd : Int) = 0)) || decide (0 < v / 1000 % 4)) :=
    orT_eq (tb_eq ((b2_eq rfl rfl).trans (ne_ii _ _))) fun _ => tb_eq ((b2_eq ((b2_eq ((b2_eq ev rfl).trans (dv_eq (by decide))) rfl).trans (md_eq (by decide))) rfl).trans rfl)
  cases hb : ((!decide ((kd : Int) = 0)) || decide (0 < v / 1000 % 4)) with
  | true =>
    refine ⟨some a, List.mem_cons_of_mem _ (List.mem_map.mpr ⟨a, List.mem_range.mpr (by omega), rfl⟩), (ifS_t (ec.trans (congrArg some hb))).trans ?_⟩
    have e1 : b2 (gD 3) (gD 7) oIx (foN xs m n2 pl u kd (jI k) (jI a)) = some (.int (atL pl a)) := (b2_eq rfl rfl).trans (at_ok pl a (by omega))
    have e2 : b2 (gD 3) (gD 6) oIx (foN xs m n2 pl u kd (jI k) (jI a)) = some (.int (atL pl k)) := (b2_eq rfl rfl).trans (at_ok pl k (by omega))
    unfold setS
    rw [e1, Option.bind_some]
    show (some (eI u)).bind _ = _
    rw [Option.bind_some, e2, Option.bind_some]
    show (some (atL pl k)).bind _ = _
    rw [Option.bind_some]
    have e3 : L2.ixN (eI u).length (atL pl k) = some (atL pl k).toNat := by
      unfold L2.ixN
      rw [eI_len, if_pos (by omega), if_pos (by omega)]
    rw [e3]
    have es : (eI u).set (atL pl k).toNat (.int (atL pl a)) = eI (stepU pl u k (some a)) := by unfold eI stepU; rw [List.map_set]
    show some (Out.nx (List.set (foN xs m n2 pl u kd (jI k) (jI a)) 4 (some (.own ((eI u).set (atL pl k).toNat (.int (atL pl a))))))) = _
    rw [es]
    rfl
  | false => exact ⟨none, List.mem_cons_self, (ifS_f (ec.trans (congrArg some hb))).trans rfl⟩
theorem stepU_len (pl u : List Int) (k : Nat) (o : Option Nat) : (stepU pl u k o).length = u.length := by
  cases o with
  | none => rfl
  | some a => exact List.length_set
include hm hx hl hp hk in
theorem fo_loop : ∀ (n k : Nat) (u : List Int) (x6 x7 : Option En), u.length = m → 1 ≤ k → k + n = m → ∃ (u' : List Int) (y6 y7 : Option En), u' ∈ outsU pl k n u ∧ foS (setN 6) foB ((List.range' k n).map fun (i : Nat) => .int (i : Int)) (foN xs m n2 pl u kd x6 x7) = some (.nx (foN xs m n2 pl u' kd y6 y7))
  | 0, k, u, x6, x7, _, _, _ => ⟨u, x6, x7, List.mem_singleton_self u, rfl⟩
  | n + 1, k, u, x6, x7, hu, h1, h2 => by
    obtain ⟨a, ha, ea⟩ := fo_a xs pl m hm hx hl hp kd hk n2 u x7 k h1 (by omega)
    obtain ⟨o, ho, eo⟩ := fo_i xs pl m hx hl hp kd n2 u hu k a (by omega) ha
    obtain ⟨u', y6, y7, hm', e⟩ := fo_loop n (k + 1) (stepU pl u k o) (jI k) (jI a) ((stepU_len ..).trans hu) (by omega) (by omega)
    refine ⟨u', y6, y7, List.mem_flatMap.mpr ⟨o, ho, hm'⟩, ?_⟩
    have e1 : foB (foN xs m n2 pl u kd (jI k) x7) = some (.nx (foN xs m n2 pl (stepU pl u k o) kd (jI k) (jI a))) :=
      (seqS_nx (asg_eq (i := 7) (ρ := foN xs m n2 pl u kd (jI k) x7) (d := .int (a : Int)) ea)).trans eo
    rw [List.range'_succ, List.map_cons]
    exact (foS_cons (a := setN 6) rfl e1).trans e
end
def ordD (xs : List Int) (m : Nat) : List D := (ksN m).map fun k => .tuple [.int (atL xs k.toNat % 9973), .int k]
theorem ord_ok (xs : List Int) (m : Nat) (hm : m ≤ 100) : okI (ordD xs m) = true := by
  unfold okI
  rw [Bool.and_eq_true, Bool.or_eq_true]
  refine ⟨.inr (List.all_eq_true.mpr fun d hd => ?_), decide_eq_true (by unfold ordD; rw [List.length_map, ksN_len]; omega)⟩
  obtain ⟨k, _, rfl⟩ := List.mem_map.mp hd
  rfl
theorem ksN_nodup (n : Nat) : (ksN n).Nodup := by
  unfold ksN
  exact List.pairwise_map.mpr (List.Pairwise.imp (fun h e => h (by omega)) List.nodup_range)
theorem own_eq {i : Nat} {f : Nv → Option (List D)} {ρ : Nv} {ds : List D} (e : f ρ = some ds) : ownS i f ρ = some (.nx (ρ.set i (some (.own ds)))) := by
  unfold ownS
  rw [e]
  rfl
theorem forest_ok (xs : List Int) (m : Nat) (hm : m = 2 ∨ m = 3 ∨ m = 4) (hx : m + 1 ≤ xs.length) : ∃ u : List Int, u.length = m ∧ forB u = true ∧ F_law_forest [lI xs, .int (m : Int)] = some (tI u) := by
  have pm := sortI_perm (ordD xs m)
  have ps : ((sortI (ordD xs m)).map snd2).Perm (eI (ksN m)) := by
    have z := pm.map snd2
    unfold ordD at z
    rw [List.map_map] at z
    exact z
  obtain ⟨pl, epl, ppl⟩ := perm_ints ps
  have hl : pl.length = m := ppl.length_eq.trans (ksN_len m)
  have hp : ∀ i ∈ pl, 0 ≤ i ∧ i < (m : Int) := fun i hi => by
    obtain ⟨j, hj, rfl⟩ := ksN_mem (ppl.mem_iff.mp hi)
    omega
  have hpb := plB_of (ppl.symm.nodup (ksN_nodup m))
  have r1 := Int.emod_nonneg (atL xs m) (b := 5) (by decide)
  have r2 := Int.emod_lt_of_pos (atL xs m) (b := 5) (by decide)
  obtain ⟨u, y6, y7, hu, e⟩ := fo_loop xs pl m hm (by omega) hl hp (atL xs m % 5).toNat (by omega) (some (.dat (.list (sortI (ordD xs m))))) (m - 1) 1 (ksN m) none none (ksN_len m) (by omega) (by omega)
  rw [Int.toNat_of_nonneg r1] at e
  have ho := outs_ok (l := pl) (u := u) (by rw [hl]; exact hm) (by rw [hl]; exact hp) hpb (by rw [hl]; exact hu)
  have len1 : (ordD xs m).length = m := by unfold ordD; rw [List.length_map, ksN_len]
  refine ⟨u, ho.2.trans hl, ho.1, runS_rt rfl ((seqS_nx (asg_eq (i := 2) (ρ := [some (.dat (lI xs)), some (.dat (.int m)), none, none, none, none, none, none, none]) (d := .list (sortI (ordD xs m))) ?_)).trans ((seqS_nx (asg_eq (i := 3) (ρ := [some (.dat (lI xs)), some (.dat (.int m)), some (.dat (.list (sortI (ordD xs m)))), none, none, none, none, none, none]) (d := lI pl) ?_)).trans ((seqS_nx (ρ' := [some (.dat (lI xs)), some (.dat (.int m)), some (.dat (.list (sortI (ordD xs m)))), some (.dat (lI pl)), some (.own (eI (ksN m))), none, none, none, none]) ?_).trans ((seqS_nx (asg_eq (i := 5) (ρ := [some (.dat (lI xs)), some (.dat (.int m)), some (.dat (.list (sortI (ordD xs m)))), some (.dat (lI pl)), some (.own (eI (ksN m))), none, none, none, none]) (d := .int (atL xs m % 5)) ?_)).trans ((seqS_nx ((forS_eq ?_).trans e)).trans rfl)))))⟩
  · have e1 : lcV (itR1 (consA (gD 1) nilA)) (setN 6) yesT (tupV (consA (b2 (b2 (gD 0) (gD 6) oIx) (fun _ => some (.int 9973)) (oIC cMod fun i j => i % j)) (consA (gD 6) nilA))) [6] [some (.dat (lI xs)), some (.dat (.int m)), none, none, none, none, none, none, none] = some (ordD xs m) := by
      refine lcV_map (enc := PyData.int) (fun k => .tuple [.int (atL xs k.toNat % 9973), .int k]) (ksN m) ?_ (by rw [ksN_len]; omega) fun k hk => ⟨_, rfl, ?_⟩
      · rw [show (ksN m).map PyData.int = eI (ksN m) from rfl, ← rgD_ks]
        show (if rgOk (0, (m : Int)) = true then some (rgD 0 m) else none) = _
        exact if_pos (decide_eq_true (by show (-1000 : Int) ≤ 0 ∧ (0 : Int) ≤ 1000 ∧ -1000 ≤ (m : Int) ∧ (m : Int) ≤ 1000; omega))
      · obtain ⟨j, hj, rfl⟩ := ksN_mem hk
        unfold tupV
        rw [consA_eq ((b2_eq ((b2_eq rfl rfl).trans (at_ok xs j (by omega))) rfl).trans (md_eq (by decide))) (consA_eq rfl rfl)]
        rfl
    refine ls_eq ?_
    unfold cN
    rw [consA_eq (ls_eq e1) rfl]
    show (if okI (ordD xs m) = true then some (sortI (ordD xs m)) else none) = _
    rw [if_pos (ord_ok xs m (by omega))]
  · refine ls_eq ?_
    rw [← epl]
    refine lcV_map (enc := id) snd2 (sortI (ordD xs m)) (by rw [List.map_id]; exact itL_eq rfl (by rw [pm.length_eq, len1]; omega)) (by rw [pm.length_eq, len1]; omega) fun d hd => ⟨_, rfl, ?_⟩
    obtain ⟨k, _, rfl⟩ := List.mem_map.mp (pm.mem_iff.mp hd)
    rfl
  · have e1 : lstRg (rg1 (gD 1)) [some (.dat (lI xs)), some (.dat (.int m)), some (.dat (.list (sortI (ordD xs m)))), some (.dat (lI pl)), none, none, none, none, none] = some (eI (ksN m)) := by
      rw [← rgD_ks]
      show (if rgOk (0, (m : Int)) = true then some (rgD 0 m) else none) = _
      exact if_pos (decide_eq_true (by show (-1000 : Int) ≤ 0 ∧ (0 : Int) ≤ 1000 ∧ -1000 ≤ (m : Int) ∧ (m : Int) ≤ 1000; omega))
    exact own_eq (i := 4) e1
  · exact (b2_eq ((b2_eq rfl rfl).trans (at_ok xs m (by omega))) rfl).trans (md_eq (by decide))
  · have e1 : itR2 (consA (fun _ => some (.int 1)) (consA (gD 1) nilA)) [some (.dat (lI xs)), some (.dat (.int m)), some (.dat (.list (sortI (ordD xs m)))), some (.dat (lI pl)), some (.own (eI (ksN m))), some (.dat (.int (atL xs m % 5))), none, none, none] = some (rgD 1 m) :=
      if_pos (decide_eq_true (by show (-1000 : Int) ≤ 1 ∧ (1 : Int) ≤ 1000 ∧ -1000 ≤ (m : Int) ∧ (m : Int) ≤ 1000; omega))
    refine e1.trans ?_
    unfold rgD
    have e2 : ((m : Int) - 1).toNat = m - 1 := by omega
    rw [e2, List.range_eq_range', List.range'_eq_map_range (s := 1), List.map_map, ← List.range_eq_range']
    rfl
end Qd
end
section
set_option Elab.async false
set_option linter.all false
set_option autoImplicit false
set_option maxRecDepth 100000
set_option maxHeartbeats 1000000
/-! P22: a board's walls and roads depend on which spots are open only. -/
namespace Qd
open PySem
open PySem.Spec
theorem lcV_congr {fi : Nv → Option (List D)} {a : D → Nv → Option Nv} {ft : Nv → Option Bool} {fe : Nv → Option D} {vs : List Nat} {ρ ρ' : Nv} (h1 : fi ρ = fi ρ') (h2 : ∀ d, ∃ r r', a d (wipeN ρ vs) = some r ∧ a d (wipeN ρ' vs) = some r' ∧ ft r = ft r' ∧ fe r = fe r') : lcV fi a ft fe vs ρ = lcV fi a ft fe vs ρ' := by
  have key : ∀ ds : List D, lcD a ft fe (wipeN ρ vs) ds = lcD a ft fe (wipeN ρ' vs) ds := by
    intro ds
    induction ds with
    | nil => rfl
    | cons d ds ih =>
      obtain ⟨r, r', e1, e2, e3, e4⟩ := h2 d
      show ((a d (wipeN ρ vs)).bind fun ρ1 => (ft ρ1).bind fun b => if b = true then (fe ρ1).bind fun y => (lcD a ft fe (wipeN ρ vs) ds).map (y :: ·) else lcD a ft fe (wipeN ρ vs) ds) = ((a d (wipeN ρ' vs)).bind fun ρ1 => (ft ρ1).bind fun b => if b = true then (fe ρ1).bind fun y => (lcD a ft fe (wipeN ρ' vs) ds).map (y :: ·) else lcD a ft fe (wipeN ρ' vs) ds)
      rw [e1, e2, Option.bind_some, Option.bind_some, e3, e4, ih]
  unfold lcV
  rw [h1]
  congr 1
  funext ds
  rw [key]
def SameK (k1 k2 : List (D × D)) : Prop := ∀ i, (dGet k1 i).isSome = (dGet k2 i).isSome
theorem din_congr {k1 k2 : List (D × D)} (h : SameK k1 k2) (neg : Bool) (x : D) : oDin neg x (.dict k1) = oDin neg x (.dict k2) := by
  cases x <;> first | rfl | skip
  rename_i i
  show some (PyData.bool (if neg = true then !(dGet k1 i).isSome else (dGet k1 i).isSome)) = some (PyData.bool (if neg = true then !(dGet k2 i).isSome else (dGet k2 i).isSome))
  rw [h i]
theorem bind_congr' {α β : Type} {o : Option α} {f g : α → Option β} (h : ∀ x, f x = g x) : o.bind f = o.bind g := by
  cases o with
  | none => rfl
  | some x => exact h x
theorem tb_congr {f : Nv → Option D} {ρ ρ' : Nv} (h : f ρ = f ρ') : tb f ρ = tb f ρ' := by
  unfold tb
  rw [h]
section
variable {k1 k2 : List (D × D)} (h : SameK k1 k2) (hi wi : D)
include h
theorem wall_congr : F_wall [hi, wi, .dict k1] = F_wall [hi, wi, .dict k2] := by
  have e1 : (lsV (lcV (itR1 (consA (gD 0) nilA)) (setN 5) (tb (b2 (b2 (gD 5) (gD 1) oMul) (gD 2) (oDin true))) (b2 (gD 5) (gD 1) oMul) [5])) [some (.dat hi), some (.dat wi), some (.dat (.dict k1)), none, none, none, none, none] = (lsV (lcV (itR1 (consA (gD 0) nilA)) (setN 5) (tb (b2 (b2 (gD 5) (gD 1) oMul) (gD 2) (oDin true))) (b2 (gD 5) (gD 1) oMul) [5])) [some (.dat hi), some (.dat wi), some (.dat (.dict k2)), none, none, none, none, none] := by
    refine congrArg (Option.map PyData.list) (lcV_congr rfl fun d => ⟨_, _, rfl, rfl, tb_congr ?_, rfl⟩)
    show (oMul d wi).bind (fun x => oDin true x (.dict k1)) = (oMul d wi).bind (fun x => oDin true x (.dict k2))
    exact bind_congr' fun x => din_congr h true x
  have e2 : ∀ s : D, (lsV (lcV (itR1 (consA (gD 0) nilA)) (setN 5) (tb (b2 (b2 (b2 (b2 (gD 5) (gD 1) oMul) (gD 1) oAdd) (fun _ => some (.int 1)) (oI fun i j => i - j)) (gD 2) (oDin true))) (b2 (b2 (b2 (gD 5) (gD 1) oMul) (gD 1) oAdd) (fun _ => some (.int 1)) (oI fun i j => i - j)) [5])) [some (.dat hi), some (.dat wi), some (.dat (.dict k1)), some (.dat s), none, none, none, none] = (lsV (lcV (itR1 (consA (gD 0) nilA)) (setN 5) (tb (b2 (b2 (b2 (b2 (gD 5) (gD 1) oMul) (gD 1) oAdd) (fun _ => some (.int 1)) (oI fun i j => i - j)) (gD 2) (oDin true))) (b2 (b2 (b2 (gD 5) (gD 1) oMul) (gD 1) oAdd) (fun _ => some (.int 1)) (oI fun i j => i - j)) [5])) [some (.dat hi), some (.dat wi), some (.dat (.dict k2)), some (.dat s), none, none, none, none] := fun s => by
    refine congrArg (Option.map PyData.list) (lcV_congr rfl fun d => ⟨_, _, rfl, rfl, tb_congr ?_, rfl⟩)
    show Option.bind (Option.bind (Option.bind (oMul d wi) fun x => oAdd x wi) fun x => oI (fun i j => i - j) x (.int 1)) (fun x => oDin true x (.dict k1)) = Option.bind (Option.bind (Option.bind (oMul d wi) fun x => oAdd x wi) fun x => oI (fun i j => i - j) x (.int 1)) (fun x => oDin true x (.dict k2))
    exact bind_congr' fun x => din_congr h true x
  have e3 : ∀ s e : D, lamG 7 [some (.dat hi), some (.dat wi), some (.dat (.dict k1)), some (.dat s), some (.dat e), none, none, none] (lsV (lcV (itL (c1 (consA (gD 0) (consA (gD 1) (consA (gD 7) nilA))) F_around)) (setN 6) (tb (b2 (gD 6) (gD 2) (oDin true))) (gD 6) [6])) = lamG 7 [some (.dat hi), some (.dat wi), some (.dat (.dict k2)), some (.dat s), some (.dat e), none, none, none] (lsV (lcV (itL (c1 (consA (gD 0) (consA (gD 1) (consA (gD 7) nilA))) F_around)) (setN 6) (tb (b2 (gD 6) (gD 2) (oDin true))) (gD 6) [6])) := fun s e => by
    funext ds
    match ds with
    | [] => rfl
    | [x] =>
      show lsV _ [some (.dat hi), some (.dat wi), some (.dat (.dict k1)), some (.dat s), some (.dat e), none, none, some (.dat x)] = lsV _ [some (.dat hi), some (.dat wi), some (.dat (.dict k2)), some (.dat s), some (.dat e), none, none, some (.dat x)]
      refine congrArg (Option.map PyData.list) (lcV_congr rfl fun d => ⟨_, _, rfl, rfl, tb_congr ?_, rfl⟩)
      exact din_congr h true d
    | _ :: _ :: _ => rfl
  show (d_wall [some (.dat hi), some (.dat wi), some (.dat (.dict k1)), none, none, none, none, none]).bind outD = (d_wall [some (.dat hi), some (.dat wi), some (.dat (.dict k2)), none, none, none, none, none]).bind outD
  unfold d_wall seqS asgS
  rw [e1]
  cases (lsV (lcV (itR1 (consA (gD 0) nilA)) (setN 5) (tb (b2 (b2 (gD 5) (gD 1) oMul) (gD 2) (oDin true))) (b2 (gD 5) (gD 1) oMul) [5])) [some (.dat hi), some (.dat wi), some (.dat (.dict k2)), none, none, none, none, none] with
  | none => rfl
  | some s =>
    have e2 := e2 s
    show Option.bind (Option.bind (Option.bind (lsV _ [some (.dat hi), some (.dat wi), some (.dat (.dict k1)), some (.dat s), none, none, none, none]) _) _) outD = Option.bind (Option.bind (Option.bind (lsV _ [some (.dat hi), some (.dat wi), some (.dat (.dict k2)), some (.dat s), none, none, none, none]) _) _) outD
    rw [e2]
    cases (lsV (lcV (itR1 (consA (gD 0) nilA)) (setN 5) (tb (b2 (b2 (b2 (b2 (gD 5) (gD 1) oMul) (gD 1) oAdd) (fun _ => some (.int 1)) (oI fun i j => i - j)) (gD 2) (oDin true))) (b2 (b2 (b2 (gD 5) (gD 1) oMul) (gD 1) oAdd) (fun _ => some (.int 1)) (oI fun i j => i - j)) [5])) [some (.dat hi), some (.dat wi), some (.dat (.dict k2)), some (.dat s), none, none, none, none] with
    | none => rfl
    | some e =>
      have e3 := e3 s e
      show Option.bind (Option.map Out.rt (F_way_through (lamG 7 [some (.dat hi), some (.dat wi), some (.dat (.dict k1)), some (.dat s), some (.dat e), none, none, none] _) [s, e])) outD = Option.bind (Option.map Out.rt (F_way_through (lamG 7 [some (.dat hi), some (.dat wi), some (.dat (.dict k2)), some (.dat s), some (.dat e), none, none, none] _) [s, e])) outD
      rw [e3]
theorem road_congr : F_open_road [hi, wi, .dict k1] = F_open_road [hi, wi, .dict k2] := by
  have e1 : (lsV (lcV (itR1 (consA (gD 1) nilA)) (setN 5) (tb (b2 (gD 5) (gD 2) (oDin false))) (gD 5) [5])) [some (.dat hi), some (.dat wi), some (.dat (.dict k1)), none, none, none, none] = (lsV (lcV (itR1 (consA (gD 1) nilA)) (setN 5) (tb (b2 (gD 5) (gD 2) (oDin false))) (gD 5) [5])) [some (.dat hi), some (.dat wi), some (.dat (.dict k2)), none, none, none, none] := by
    refine congrArg (Option.map PyData.list) (lcV_congr rfl fun d => ⟨_, _, rfl, rfl, tb_congr ?_, rfl⟩)
    exact din_congr h false d
  have e2 : ∀ s : D, (lsV (lcV (itR2 (consA (b2 (b2 (gD 0) (fun _ => some (.int 1)) (oI fun i j => i - j)) (gD 1) oMul) (consA (b2 (gD 0) (gD 1) oMul) nilA))) (setN 5) (tb (b2 (gD 5) (gD 2) (oDin false))) (gD 5) [5])) [some (.dat hi), some (.dat wi), some (.dat (.dict k1)), some (.dat s), none, none, none] = (lsV (lcV (itR2 (consA (b2 (b2 (gD 0) (fun _ => some (.int 1)) (oI fun i j => i - j)) (gD 1) oMul) (consA (b2 (gD 0) (gD 1) oMul) nilA))) (setN 5) (tb (b2 (gD 5) (gD 2) (oDin false))) (gD 5) [5])) [some (.dat hi), some (.dat wi), some (.dat (.dict k2)), some (.dat s), none, none, none] := fun s => by
    refine congrArg (Option.map PyData.list) (lcV_congr rfl fun d => ⟨_, _, rfl, rfl, tb_congr ?_, rfl⟩)
    exact din_congr h false d
  have e3 : ∀ s e : D, lamG 6 [some (.dat hi), some (.dat wi), some (.dat (.dict k1)), some (.dat s), some (.dat e), none, none] (lsV (lcV (itL (c1 (consA (gD 0) (consA (gD 1) (consA (gD 6) nilA))) F_beside)) (setN 5) (tb (b2 (gD 5) (gD 2) (oDin false))) (gD 5) [5])) = lamG 6 [some (.dat hi), some (.dat wi), some (.dat (.dict k2)), some (.dat s), some (.dat e), none, none] (lsV (lcV (itL (c1 (consA (gD 0) (consA (gD 1) (consA (gD 6) nilA))) F_beside)) (setN 5) (tb (b2 (gD 5) (gD 2) (oDin false))) (gD 5) [5])) := fun s e => by
    funext ds
    match ds with
    | [] => rfl
    | [x] =>
      show lsV _ [some (.dat hi), some (.dat wi), some (.dat (.dict k1)), some (.dat s), some (.dat e), none, some (.dat x)] = lsV _ [some (.dat hi), some (.dat wi), some (.dat (.dict k2)), some (.dat s), some (.dat e), none, some (.dat x)]
      refine congrArg (Option.map PyData.list) (lcV_congr rfl fun d => ⟨_, _, rfl, rfl, tb_congr ?_, rfl⟩)
      exact din_congr h false d
    | _ :: _ :: _ => rfl
  show (d_open_road [some (.dat hi), some (.dat wi), some (.dat (.dict k1)), none, none, none, none]).bind outD = (d_open_road [some (.dat hi), some (.dat wi), some (.dat (.dict k2)), none, none, none, none]).bind outD
  unfold d_open_road seqS asgS
  rw [e1]
  cases (lsV (lcV (itR1 (consA (gD 1) nilA)) (setN 5) (tb (b2 (gD 5) (gD 2) (oDin false))) (gD 5) [5])) [some (.dat hi), some (.dat wi), some (.dat (.dict k2)), none, none, none, none] with
  | none => rfl
  | some s =>
    have e2 := e2 s
    show Option.bind (Option.bind (Option.bind (lsV _ [some (.dat hi), some (.dat wi), some (.dat (.dict k1)), some (.dat s), none, none, none]) _) _) outD = Option.bind (Option.bind (Option.bind (lsV _ [some (.dat hi), some (.dat wi), some (.dat (.dict k2)), some (.dat s), none, none, none]) _) _) outD
    rw [e2]
    cases (lsV (lcV (itR2 (consA (b2 (b2 (gD 0) (fun _ => some (.int 1)) (oI fun i j => i - j)) (gD 1) oMul) (consA (b2 (gD 0) (gD 1) oMul) nilA))) (setN 5) (tb (b2 (gD 5) (gD 2) (oDin false))) (gD 5) [5])) [some (.dat hi), some (.dat wi), some (.dat (.dict k2)), some (.dat s), none, none, none] with
    | none => rfl
    | some e =>
      have e3 := e3 s e
      show Option.bind (Option.map Out.rt (F_way_through (lamG 6 [some (.dat hi), some (.dat wi), some (.dat (.dict k1)), some (.dat s), some (.dat e), none, none] _) [s, e])) outD = Option.bind (Option.map Out.rt (F_way_through (lamG 6 [some (.dat hi), some (.dat wi), some (.dat (.dict k2)), some (.dat s), some (.dat e), none, none] _) [s, e])) outD
      rw [e3]
end
end Qd
end
section
set_option Elab.async false
set_option linter.all false
set_option autoImplicit false
set_option maxRecDepth 100000
set_option maxHeartbeats 1000000
/-! P23: what the checker says of a board's papers. -/
namespace Qd
open PySem
open PySem.Spec
theorem decide_not' {p : Prop} [Decidable p] : decide (¬ p) = !decide p := by by_cases h : p <;> simp [h]
theorem all_in (l p : List Int) (n : Nat) (ρ : Nv) (hl : p.length ≤ 900) (e3 : gD 3 (wipeN ρ [4]) = some (tI p)) (e3' : itT (gD 3) ρ = some (eI p)) (e2 : ∀ i, gD 2 ((wipeN ρ [4]).set 4 (some (.dat (.int i)))) = some (tI l)) (e4 : ∀ i, gD 4 ((wipeN ρ [4]).set 4 (some (.dat (.int i)))) = some (.int i)) : c1 (consA (lsV (lcV (itT (gD 3)) (setN 4) yesT (b2 (gD 4) (gD 2) (oIn false)) [4])) nilA) oAll ρ = some (.bool (p.all fun i => decide (i ∈ l))) :=
  all_enc (enc := PyData.int) (fun i => decide (i ∈ l)) p e3' (by omega) fun i _ => ⟨_, rfl, (b2_eq (e4 i) (e2 i)).trans (in_I false i l)⟩
theorem any_in (l p : List Int) (ρ : Nv) (hl : p.length ≤ 900) (e3' : itT (gD 3) ρ = some (eI p)) (e2 : ∀ i, gD 2 ((wipeN ρ [4]).set 4 (some (.dat (.int i)))) = some (tI l)) (e4 : ∀ i, gD 4 ((wipeN ρ [4]).set 4 (some (.dat (.int i)))) = some (.int i)) : c1 (consA (lsV (lcV (itT (gD 3)) (setN 4) yesT (b2 (gD 4) (gD 2) (oIn false)) [4])) nilA) oAny ρ = some (.bool (p.any fun i => decide (i ∈ l))) :=
  any_enc (enc := PyData.int) (fun i => decide (i ∈ l)) p e3' (by omega) fun i _ => ⟨_, rfl, (b2_eq (e4 i) (e2 i)).trans (in_I false i l)⟩
abbrev bdN (h w : Int) (l p : D) : Nv := [some (.dat (.int h)), some (.dat (.int w)), some (.dat l), some (.dat p), none]
def roadE (h w : Int) (p : List Int) : Option D := (andV (b2 (b2 (b2 (gD 3) (fun _ => some (.int 0)) oIx) (gD 1) (oIC cDiv fun i j => i / j)) (fun _ => some (.int 0)) (oEqD false)) (b2 (b2 (b2 (gD 3) (b1 (fun _ => some (.int 1)) oNeg) oIx) (gD 1) (oIC cDiv fun i j => i / j)) (b2 (gD 0) (fun _ => some (.int 1)) (oI fun i j => i - j)) (oEqD false))) (bdN h w .none (tI p))
def wallE (h w : Int) (p : List Int) : Option D := (andV (b2 (b2 (b2 (gD 3) (fun _ => some (.int 0)) oIx) (gD 1) (oIC cMod fun i j => i % j)) (fun _ => some (.int 0)) (oEqD false)) (b2 (b2 (b2 (gD 3) (b1 (fun _ => some (.int 1)) oNeg) oIx) (gD 1) (oIC cMod fun i j => i % j)) (b2 (gD 1) (fun _ => some (.int 1)) (oI fun i j => i - j)) (oEqD false))) (bdN h w .none (tI p))
theorem s_open_road (h w : Int) (l p : List Int) (hp : p.length ≤ 900) {b e : Bool} (hb : F_is_line [.int w, tI p, .bool false] = some (.bool b)) (he : roadE h w p = some (.bool e)) : F_is_open_road [.int h, .int w, tI l, tI p] = some (.bool ((p.all fun i => decide (i ∈ l)) && (b && e))) := by
  have it : itT (gD 3) (bdN h w (tI l) (tI p)) = some (eI p) := itT_eq rfl (by rw [eI_len]; omega)
  have ec : (orT (notT (tb (c1 (consA (gD 3) nilA) F_are_wholes))) (orT (notT (tb (c1 (consA (lsV (lcV (itT (gD 3)) (setN 4) yesT (b2 (gD 4) (gD 2) (oIn false)) [4])) nilA) oAll))) (notT (tb (c1 (consA (gD 1) (consA (gD 3) (consA (fun _ => some (.bool false)) nilA))) F_is_line))))) (bdN h w (tI l) (tI p)) = some (!((p.all fun i => decide (i ∈ l)) && b)) := by
    refine (orT_eq (notT_f (tb_eq ((c1_eq (consA_eq rfl rfl)).trans (s_are_wholes p (by omega))))) fun _ => orT_eq (notT_eq (tb_eq (all_in l p 0 _ hp rfl it (fun _ => rfl) (fun _ => rfl)))) fun _ => notT_eq (tb_eq ((c1_eq (consA_eq rfl (consA_eq rfl (consA_eq rfl rfl)))).trans hb))).trans ?_
    rw [Bool.not_and, Bool.false_or]
  cases hc : ((p.all fun i => decide (i ∈ l)) && b) with
  | false =>
    rw [hc] at ec
    rw [← Bool.and_assoc, hc]
    exact runS_rt rfl (seqS_rt ((ifS_t ec).trans rfl))
  | true =>
    rw [hc] at ec
    rw [← Bool.and_assoc, hc]
    exact runS_rt rfl ((seqS_nx (ρ' := bdN h w (tI l) (tI p)) ((ifS_f ec).trans rfl)).trans (ret_eq (by exact he)))
theorem s_wall (h w n : Int) (l p : List Int) (hp : p.length ≤ 900) (hn : oMul (.int h) (.int w) = some (.int n)) (hr : (p.all fun i => inR n i) = true) {b e : Bool} (hb : F_is_line [.int w, tI p, .bool true] = some (.bool b)) (he : wallE h w p = some (.bool e)) : F_is_wall [.int h, .int w, tI l, tI p] = some (.bool ((p.all fun i => !decide (i ∈ l)) && (b && e))) := by
  have it : itT (gD 3) (bdN h w (tI l) (tI p)) = some (eI p) := itT_eq rfl (by rw [eI_len]; omega)
  have ea : c1 (consA (lsV (lcV (itT (gD 3)) (setN 4) yesT (c1 (consA (b2 (gD 0) (gD 1) oMul) (consA (gD 4) nilA)) F_is_thing_of) [4])) nilA) oAll (bdN h w (tI l) (tI p)) = some (.bool (p.all fun i => inR n i)) :=
    all_enc (enc := PyData.int) (fun i => inR n i) p it (by omega) fun i _ => ⟨_, rfl, (c1_eq (consA_eq ((b2_eq rfl rfl).trans hn) (consA_eq rfl rfl))).trans (s_is_thing_of n i)⟩
  rw [hr] at ea
  have e1 : (orT (notT (tb (c1 (consA (gD 3) nilA) F_are_wholes))) (notT (tb (c1 (consA (lsV (lcV (itT (gD 3)) (setN 4) yesT (c1 (consA (b2 (gD 0) (gD 1) oMul) (consA (gD 4) nilA)) F_is_thing_of) [4])) nilA) oAll)))) (bdN h w (tI l) (tI p)) = some false :=
    orT_eq (notT_f (tb_eq ((c1_eq (consA_eq rfl rfl)).trans (s_are_wholes p (by omega))))) fun _ => notT_f (tb_eq ea)
  have ec : (orT (tb (c1 (consA (lsV (lcV (itT (gD 3)) (setN 4) yesT (b2 (gD 4) (gD 2) (oIn false)) [4])) nilA) oAny)) (notT (tb (c1 (consA (gD 1) (consA (gD 3) (consA (fun _ => some (.bool true)) nilA))) F_is_line)))) (bdN h w (tI l) (tI p)) = some (!((p.all fun i => !decide (i ∈ l)) && b)) := by
    refine (orT_eq (tb_eq (any_in l p _ hp it (fun _ => rfl) (fun _ => rfl))) fun _ => notT_eq (tb_eq ((c1_eq (consA_eq rfl (consA_eq rfl (consA_eq rfl rfl)))).trans hb))).trans ?_
    rw [Bool.not_and, List.not_all_eq_any_not]
    simp
  cases hc : ((p.all fun i => !decide (i ∈ l)) && b) with
  | false =>
    rw [hc] at ec
    rw [← Bool.and_assoc, hc]
    exact runS_rt rfl ((seqS_nx ((ifS_f e1).trans rfl)).trans (seqS_rt ((ifS_t ec).trans rfl)))
  | true =>
    rw [hc] at ec
    rw [← Bool.and_assoc, hc]
    exact runS_rt rfl ((seqS_nx ((ifS_f e1).trans rfl)).trans ((seqS_nx (ρ' := bdN h w (tI l) (tI p)) ((ifS_f ec).trans rfl)).trans (ret_eq (by exact he))))
/-- papers of the wrong make -/
theorem s_road_int (h w i : Int) (l : D) : F_is_open_road [.int h, .int w, l, .int i] = some (.bool false) :=
  runS_rt rfl (seqS_rt ((ifS_t (orT_eq (b := true) (notT_t (tb_eq ((c1_eq (consA_eq rfl rfl)).trans (by kernel_rfl : F_are_wholes [.int i] = some (.bool false))))) fun z => by cases z)).trans rfl))
theorem s_wall_two (h w : Int) (l : D) (p q : List Int) : F_is_wall [.int h, .int w, l, .tuple [tI p, tI q]] = some (.bool false) :=
  runS_rt rfl (seqS_rt ((ifS_t (orT_eq (b := true) (notT_t (tb_eq ((c1_eq (consA_eq rfl rfl)).trans (by kernel_rfl : F_are_wholes [.tuple [tI p, tI q]] = some (.bool false))))) fun z => by cases z)).trans rfl))
end Qd
end
section
set_option Elab.async false
set_option linter.all false
set_option autoImplicit false
set_option maxRecDepth 100000
set_option maxHeartbeats 0
/-! P24: boards of at most six spots: finite checks. -/
namespace Qd
open PySem
def szs : List (Nat × Nat) := [(1, 1), (2, 1), (3, 1), (1, 2), (2, 2), (3, 2)]
def roadsL : Nat → Nat → List (List Int)
  | 1, 1 => [[0]]
  | 2, 1 => [[0, 1]]
  | 3, 1 => [[0, 1, 2]]
  | 1, 2 => [[0], [1]]
  | 2, 2 => [[0, 2], [1, 3], [1, 3, 2]]
  | 3, 2 => [[0, 2, 4], [1, 3, 5], [0, 2, 3, 5], [1, 3, 2, 4], [1, 3, 5, 4]]
  | _, _ => []
def wallsL : Nat → Nat → List (List Int)
  | 1, 1 => [[0]]
  | 2, 1 => [[0], [1]]
  | 3, 1 => [[0], [1], [2]]
  | 1, 2 => [[0, 1]]
  | 2, 2 => [[0, 1], [2, 1], [0, 3], [2, 3]]
  | 3, 2 => [[0, 1], [2, 1], [0, 3], [2, 3], [4, 3, 1], [2, 5], [4, 3], [4, 5]]
  | _, _ => []
def candL (h w : Nat) : List (List Int) := roadsL h w ++ wallsL h w
def roadG (h w : Nat) (p : List Int) : Bool := isTru (F_is_line [.int (w : Int), tI p, .bool false]) && isTru (roadE h w p)
def wallG (h w : Nat) (p : List Int) : Bool := isTru (F_is_line [.int (w : Int), tI p, .bool true]) && isTru (wallE h w p)
def isBo : Option D → Bool
  | some (.bool _) => true
  | _ => false
theorem isBo_ok {o : Option D} (h : isBo o = true) : o = some (.bool (isTru o)) := by
  unfold isBo at h
  split at h
  · rename_i b
    cases b <;> rfl
  · cases h
def candB (h w : Nat) (p : List Int) : Bool := isBo (F_is_line [.int (w : Int), tI p, .bool false]) && (isBo (F_is_line [.int (w : Int), tI p, .bool true]) && (isBo (roadE h w p) && (isBo (wallE h w p) && ((p.all fun i => inR ((h * w : Nat) : Int) i) && decide (p.length ≤ 900)))))
theorem cand_chk : (szs.all fun z => (candL z.1 z.2).all (candB z.1 z.2)) = true := by kernel_rfl
theorem good_chk : (szs.all fun z => (roadsL z.1 z.2).all (roadG z.1 z.2) && (wallsL z.1 z.2).all (wallG z.1 z.2)) = true := by kernel_rfl
theorem cross_chk : (szs.all fun z => (candL z.1 z.2).all fun p => !roadG z.1 z.2 p || (candL z.1 z.2).all fun q => !wallG z.1 z.2 q || p.any fun i => decide (i ∈ q)) = true := by kernel_rfl
def decO : Option D → Option (Option (List Int))
  | some .none => some none
  | some (.tuple ds) => (intsD ds).map some
  | _ => none
def optD : Option (List Int) → D
  | none => .none
  | some l => tI l
theorem decO_some {o : Option D} {r : Option (List Int)} (h : decO o = some r) : o = some (optD r) := by
  unfold decO at h
  split at h
  · cases h; rfl
  · obtain ⟨l, h1, rfl⟩ := Option.map_eq_some_iff.mp h
    rw [intsD_some h1]
    rfl
  · cases h
def sD (s : List Int) : D := .dict (s.map fun i => (.int i, .bool true))
def foundB (h w : Nat) (s : List Int) : Bool := match decO (F_open_road [.int (h : Int), .int (w : Int), sD s]), decO (F_wall [.int (h : Int), .int (w : Int), sD s]) with
  | some (some p), some none => decide (p ∈ roadsL h w) && p.all fun i => decide (i ∈ s)
  | some none, some (some q) => decide (q ∈ wallsL h w) && q.all fun i => !decide (i ∈ s)
  | _, _ => false
theorem found11 : (setsN 1).all (foundB 1 1) = true := by kernel_rfl
theorem found21 : (setsN 2).all (foundB 2 1) = true := by kernel_rfl
theorem found31 : (setsN 3).all (foundB 3 1) = true := by kernel_rfl
theorem found12 : (setsN 2).all (foundB 1 2) = true := by kernel_rfl
theorem found22 : (setsN 4).all (foundB 2 2) = true := by kernel_rfl
theorem found32_0 : (((setsN 6).drop (16 * 0)).take 16).all (foundB 3 2) = true := by kernel_rfl
theorem found32_1 : (((setsN 6).drop (16 * 1)).take 16).all (foundB 3 2) = true := by kernel_rfl
theorem found32_2 : (((setsN 6).drop (16 * 2)).take 16).all (foundB 3 2) = true := by kernel_rfl
theorem found32_3 : (((setsN 6).drop (16 * 3)).take 16).all (foundB 3 2) = true := by kernel_rfl
theorem found32 : (setsN 6).all (foundB 3 2) = true := by
  refine all_chunk (foundB 3 2) 16 4 _ (by decide +kernel) fun i hi => ?_
  match i, hi with
  | 0, _ => exact found32_0
  | 1, _ => exact found32_1
  | 2, _ => exact found32_2
  | 3, _ => exact found32_3
  | i + 4, h => omega
theorem found_at {h w : Nat} (hm : (h, w) ∈ szs) {s : List Int} (hs : s ∈ setsN (h * w)) : foundB h w s = true := by
  simp only [szs, List.mem_cons, Prod.mk.injEq, List.not_mem_nil, or_false] at hm
  rcases hm with ⟨rfl, rfl⟩ | ⟨rfl, rfl⟩ | ⟨rfl, rfl⟩ | ⟨rfl, rfl⟩ | ⟨rfl, rfl⟩ | ⟨rfl, rfl⟩
  · exact List.all_eq_true.mp found11 s hs
  · exact List.all_eq_true.mp found21 s hs
  · exact List.all_eq_true.mp found31 s hs
  · exact List.all_eq_true.mp found12 s hs
  · exact List.all_eq_true.mp found22 s hs
  · exact List.all_eq_true.mp found32 s hs
/-! ### in plain words -/
section
variable {h w : Nat} (hm : (h, w) ∈ szs)
include hm
theorem cand_at {p : List Int} (hp : p ∈ candL h w) : candB h w p = true := List.all_eq_true.mp (List.all_eq_true.mp cand_chk (h, w) hm) p hp
theorem cand_road {p : List Int} (hp : p ∈ candL h w) (l : List Int) : F_is_open_road [.int (h : Int), .int (w : Int), tI l, tI p] = some (.bool ((p.all fun i => decide (i ∈ l)) && roadG h w p)) := by
  have c := cand_at hm hp
  unfold candB at c
  simp only [Bool.and_eq_true, decide_eq_true_eq] at c
  exact s_open_road h w l p c.2.2.2.2.2 (isBo_ok c.1) (isBo_ok c.2.2.1)
theorem cand_wall {p : List Int} (hp : p ∈ candL h w) (l : List Int) (hn : oMul (.int (h : Int)) (.int (w : Int)) = some (.int ((h * w : Nat) : Int))) : F_is_wall [.int (h : Int), .int (w : Int), tI l, tI p] = some (.bool ((p.all fun i => !decide (i ∈ l)) && wallG h w p)) := by
  have c := cand_at hm hp
  unfold candB at c
  simp only [Bool.and_eq_true, decide_eq_true_eq] at c
  exact s_wall h w _ l p c.2.2.2.2.2 hn c.2.2.2.2.1 (isBo_ok c.2.1) (isBo_ok c.2.2.2.1)
theorem cross_at {p q : List Int} (hp : p ∈ candL h w) (hq : q ∈ candL h w) (gp : roadG h w p = true) (gq : wallG h w q = true) : ∃ i ∈ p, i ∈ q := by
  have c := List.all_eq_true.mp (List.all_eq_true.mp cross_chk (h, w) hm) p hp
  rw [gp, Bool.not_true, Bool.false_or] at c
  have c := List.all_eq_true.mp c q hq
  rw [gq, Bool.not_true, Bool.false_or] at c
  obtain ⟨i, h1, h2⟩ := List.any_eq_true.mp c
  exact ⟨i, h1, of_decide_eq_true h2⟩
theorem road_good {p : List Int} (hp : p ∈ roadsL h w) : roadG h w p = true := by
  have c := List.all_eq_true.mp good_chk (h, w) hm
  rw [Bool.and_eq_true] at c
  exact List.all_eq_true.mp c.1 p hp
theorem wall_good {p : List Int} (hp : p ∈ wallsL h w) : wallG h w p = true := by
  have c := List.all_eq_true.mp good_chk (h, w) hm
  rw [Bool.and_eq_true] at c
  exact List.all_eq_true.mp c.2 p hp
end
theorem filter_sets (p : Int → Bool) : ∀ n : Nat, (ksN n).filter p ∈ setsN n
  | 0 => List.mem_singleton_self _
  | n + 1 => by
    have ih := filter_sets p n
    rw [ksN_succ, List.filter_append]
    show _ ∈ setsN n ++ (setsN n).map fun s => s ++ [(n : Int)]
    by_cases h : p (n : Int) = true
    · rw [List.filter_cons_of_pos h]
      exact List.mem_append_right _ (List.mem_map.mpr ⟨_, ih, rfl⟩)
    · rw [List.filter_cons_of_neg h]
      exact List.mem_append_left _ (by rw [List.filter_nil, List.append_nil]; exact ih)
/-- a dict of the opened spots -/
def KM (k : List (D × D)) (l : List Int) : Prop := ∀ i, (dGet k i).isSome = decide (i ∈ l)
theorem sD_get (s : List Int) (i : Int) : (dGet (s.map fun i => (PyData.int i, PyData.bool true)) i).isSome = decide (i ∈ s) := by
  induction s with
  | nil => rfl
  | cons j s ih =>
    unfold dGet at ih ⊢
    rw [List.map_cons, List.find?_cons]
    show (Option.map _ (match isKey i (PyData.int j) with | true => _ | false => _)).isSome = _
    by_cases e : j = i
    · have : isKey i (PyData.int j) = true := decide_eq_true e
      rw [this]
      subst e
      simp
    · have : isKey i (PyData.int j) = false := decide_eq_false e
      rw [this]
      refine ih.trans ?_
      have e' : ¬ i = j := fun z => e z.symm
      simp [e']
def RD (h w : Nat) (l p : List Int) : Prop := p ∈ roadsL h w ∧ (∀ i ∈ p, i ∈ l) ∧ ∀ k, KM k l → F_open_road [.int (h : Int), .int (w : Int), .dict k] = some (tI p) ∧ F_wall [.int (h : Int), .int (w : Int), .dict k] = some .none
def WL (h w : Nat) (l q : List Int) : Prop := q ∈ wallsL h w ∧ (∀ i ∈ q, i ∉ l) ∧ ∀ k, KM k l → F_open_road [.int (h : Int), .int (w : Int), .dict k] = some .none ∧ F_wall [.int (h : Int), .int (w : Int), .dict k] = some (tI q)
theorem rd_or_wl {h w : Nat} (hm : (h, w) ∈ szs) (l : List Int) (hl : ∀ i ∈ l, inR ((h * w : Nat) : Int) i = true) : (∃ p, RD h w l p) ∨ ∃ q, WL h w l q := by
  have hs := filter_sets (fun i => decide (i ∈ l)) (h * w)
  have c := found_at hm hs
  have mem : ∀ i, i ∈ (ksN (h * w)).filter (fun i => decide (i ∈ l)) ↔ i ∈ l := fun i => by
    rw [List.mem_filter, decide_eq_true_eq]
    refine ⟨fun z => z.2, fun z => ⟨?_, z⟩⟩
    have r := inR_iff.mp (hl i z)
    exact List.mem_map.mpr ⟨i.toNat, List.mem_range.mpr (by omega), by omega⟩
  have same : ∀ k, KM k l → SameK k (((ksN (h * w)).filter (fun i => decide (i ∈ l))).map fun i => (PyData.int i, PyData.bool true)) := fun k hk i => by
    rw [hk i, sD_get]
    exact decide_eq_decide.mpr (mem i).symm
  unfold foundB at c
  split at c
  · rename_i p e1 e2
    rw [Bool.and_eq_true, decide_eq_true_eq] at c
    refine .inl ⟨p, c.1, fun i hi => (mem i).mp (of_decide_eq_true (List.all_eq_true.mp c.2 i hi)), fun k hk => ⟨?_, ?_⟩⟩
    · rw [road_congr (same k hk)]; exact decO_some e1
    · rw [wall_congr (same k hk)]; exact decO_some e2
  · rename_i q e1 e2
    rw [Bool.and_eq_true, decide_eq_true_eq] at c
    refine .inr ⟨q, c.1, fun i hi hil => ?_, fun k hk => ⟨?_, ?_⟩⟩
    · have z := List.all_eq_true.mp c.2 i hi
      rw [Bool.not_eq_true', decide_eq_false_iff_not] at z
      exact z ((mem i).mpr hil)
    · rw [road_congr (same k hk)]; exact decO_some e1
    · rw [wall_congr (same k hk)]; exact decO_some e2
  · cases c
end Qd
end
section
set_option Elab.async false
set_option linter.all false
set_option autoImplicit false
set_option maxRecDepth 100000
set_option maxHeartbeats 1000000
/-! P25: claims about boards. -/
namespace Qd
open PySem
open PySem.Spec
/-- a board and a row of its spots -/
structure Bd (h w : Nat) (row : List Int) : Prop where
  mem : (h, w) ∈ szs
  all : (row.all fun i => inR ((h * w : Nat) : Int) i) = true
  len : row.length ≤ 20
theorem sz_ok {h w : Nat} (hm : (h, w) ∈ szs) : 1 ≤ h ∧ h ≤ 3 ∧ 1 ≤ w ∧ w ≤ 2 := by
  simp only [szs, List.mem_cons, Prod.mk.injEq, List.not_mem_nil, or_false] at hm
  omega
theorem sz_mul {h w : Nat} (hm : (h, w) ∈ szs) : oMul (.int (h : Int)) (.int (w : Int)) = some (.int ((h * w : Nat) : Int)) := by
  have := sz_ok hm
  rw [mul_l (by omega), Int.natCast_mul]
theorem sz_le {h w : Nat} (hm : (h, w) ∈ szs) : h * w ≤ 6 := by
  have := sz_ok hm
  exact Nat.le_trans (Nat.mul_le_mul this.2.1 this.2.2.2) (by decide)
section
variable {h w : Nat} {row : List Int} (B : Bd h w row)
include B
theorem s_opened : F_is_opened_board [.int (h : Int), .int (w : Int), tI row] = some (.bool true) := by
  have hz := sz_ok B.mem
  have hn := sz_le B.mem
  have hw : ∀ i : Int, F_is_whole [.int i] = some (.bool true) := s_is_whole
  have it : itT (gD 2) [some (.dat (.int (h : Int))), some (.dat (.int (w : Int))), some (.dat (tI row)), none] = some (eI row) := itT_eq rfl (by rw [eI_len]; have := B.len; omega)
  refine runS_rt rfl ((seqS_nx ((ifS_f ?_).trans rfl)).trans (ret_eq (andV_eq (a := true) (b := true) ((c1_eq (consA_eq rfl rfl)).trans (s_are_wholes row (by have := B.len; omega))) fun _ => ?_)))
  · refine orT_eq (notT_f (tb_eq ((c1_eq (consA_eq rfl rfl)).trans (hw _)))) fun _ => orT_eq (notT_f (tb_eq ((c1_eq (consA_eq rfl rfl)).trans (hw _)))) fun _ => orT_eq (a := false) (tb_eq ?_) fun _ => orT_eq (a := false) (tb_eq ?_) fun _ => tb_eq ?_
    · refine (b2_eq rfl rfl).trans ?_
      show some (PyData.bool (decide ((h : Int) < 1))) = _
      rw [decide_eq_false (by omega)]
    · refine (b2_eq rfl rfl).trans ?_
      show some (PyData.bool (decide ((w : Int) < 1))) = _
      rw [decide_eq_false (by omega)]
    · refine (b2_eq ((b2_eq rfl rfl).trans (sz_mul B.mem)) rfl).trans ?_
      show some (PyData.bool (decide (40 < ((h * w : Nat) : Int)))) = _
      rw [decide_eq_false (by omega)]
  · refine (all_enc (enc := PyData.int) (fun i => inR ((h * w : Nat) : Int) i) row it (by have := B.len; omega) fun i _ => ⟨_, rfl, (c1_eq (consA_eq ((b2_eq rfl rfl).trans (sz_mul B.mem)) (consA_eq rfl rfl))).trans (s_is_thing_of _ i)⟩).trans ?_
    rw [B.all]
/-! ### papers -/
end
/-- a wall, or two rows of spots -/
inductive Pp where
  | one (q : List Int)
  | two (p q : List Int)
def eQ : Pp → D
  | .one q => tI q
  | .two p q => .tuple [tI p, tI q]
def PpOk (h w : Nat) : Pp → Prop
  | .one q => q ∈ candL h w
  | .two p q => p ∈ candL h w ∧ q ∈ candL h w
def rdB (h w : Nat) (l p : List Int) : Bool := (p.all fun i => decide (i ∈ l)) && roadG h w p
def wlB (h w : Nat) (l q : List Int) : Bool := (q.all fun i => !decide (i ∈ l)) && wallG h w q
def thB (h w : Nat) (row : List Int) (t : Int) : Pp → Bool
  | .one _ => false
  | .two p q => if 1 ≤ t ∧ t ≤ row.length then rdB h w (row.take t.toNat) p && wlB h w (row.take (t - 1).toNat) q else false
def shB' (h w : Nat) (row : List Int) : Pp → Bool
  | .one q => wlB h w row q
  | .two _ _ => false
abbrev thN (h w : Nat) (row : List Int) (t : Int) (pp : Pp) : Nv := [some (.dat (.tuple [.int (h : Int), .int (w : Int), tI row, .int t])), some (.dat (eQ pp)), some (.dat (.int (h : Int))), some (.dat (.int (w : Int))), some (.dat (tI row)), some (.dat (.int t))]
theorem sl_takeI {g : Nv → Option D} {ρ : Nv} {row : List Int} {k : Int} (h1 : gD 4 ρ = some (tI row)) (h2 : g ρ = some (.int k)) (h0 : 0 ≤ k) (hk : k ≤ row.length) : slV (gD 4) noP (someP g) oSlT ρ = some (tI (row.take k.toNat)) := by
  unfold slV
  rw [h1, Option.bind_some]
  show (some none).bind _ = _
  rw [Option.bind_some]
  unfold someP
  rw [h2]
  show oSlT (tI row) none (some k) = _
  show some (PyData.tuple (cutD (eI row) none (some k))) = _
  rw [cut_take (eI row) k h0 (by rw [eI_len]; exact hk)]
  unfold eI
  rw [← List.map_take]
  rfl
section
variable {h w : Nat} {row : List Int} (B : Bd h w row)
include B
theorem s_takes_through (t : Int) (pp : Pp) (hp : PpOk h w pp) : F_takes_through [.tuple [.int (h : Int), .int (w : Int), tI row, .int t], eQ pp] = some (.bool (thB h w row t pp)) := by
  have e1 : chV (fun _ => some (.int 1)) (gD 5) (c1 (consA (gD 4) nilA) oLen) (oB fun i j => decide (i ≤ j)) (oB fun i j => decide (i ≤ j)) (thN h w row t pp) = some (.bool (decide (1 ≤ t) && decide (t ≤ ((eI row).length : Int)))) := ch_eq rfl rfl rfl rfl rfl
  rw [eI_len] at e1
  have e2 : (orT (notT (tb (c1 (consA (gD 2) (consA (gD 3) (consA (gD 4) nilA))) F_is_opened_board))) (orT (notT (tb (c1 (consA (gD 5) nilA) F_is_whole))) (notT (tb (chV (fun _ => some (.int 1)) (gD 5) (c1 (consA (gD 4) nilA) oLen) (oB fun i j => decide (i ≤ j)) (oB fun i j => decide (i ≤ j))))))) (thN h w row t pp) = some (!(decide (1 ≤ t) && decide (t ≤ (row.length : Int)))) :=
    (orT_eq (notT_f (tb_eq ((c1_eq (consA_eq rfl (consA_eq rfl (consA_eq rfl rfl)))).trans (s_opened B)))) fun _ => orT_eq (notT_f (tb_eq ((c1_eq (consA_eq rfl rfl)).trans (s_is_whole t)))) fun _ => notT_eq (tb_eq e1)).trans (by rw [Bool.false_or, Bool.false_or])
  by_cases ht : 1 ≤ t ∧ t ≤ row.length
  case neg =>
    have : (decide (1 ≤ t) && decide (t ≤ (row.length : Int))) = false := by
      by_cases h1 : 1 ≤ t
      · rw [decide_eq_false (fun z => ht ⟨h1, z⟩), Bool.and_false]
      · rw [decide_eq_false h1, Bool.false_and]
    rw [this] at e2
    have ef : thB h w row t pp = false := by
      cases pp with
      | one q => rfl
      | two p q => exact if_neg ht
    rw [ef]
    exact runS_rt rfl ((seqS_nx (ρ' := thN h w row t pp) rfl).trans (seqS_rt ((ifS_t e2).trans rfl)))
  case pos =>
    rw [decide_eq_true ht.1, decide_eq_true ht.2] at e2
    have e2 : (orT (notT (tb (c1 (consA (gD 2) (consA (gD 3) (consA (gD 4) nilA))) F_is_opened_board))) (orT (notT (tb (c1 (consA (gD 5) nilA) F_is_whole))) (notT (tb (chV (fun _ => some (.int 1)) (gD 5) (c1 (consA (gD 4) nilA) oLen) (oB fun i j => decide (i ≤ j)) (oB fun i j => decide (i ≤ j))))))) (thN h w row t pp) = some false := e2
    have s1 : slV (gD 4) noP (someP (gD 5)) oSlT (thN h w row t pp) = some (tI (row.take t.toNat)) := sl_takeI rfl rfl (by omega) ht.2
    have s2 : slV (gD 4) noP (someP (b2 (gD 5) (fun _ => some (.int 1)) (oI fun i j => i - j))) oSlT (thN h w row t pp) = some (tI (row.take (t - 1).toNat)) := sl_takeI (k := t - 1) rfl rfl (by omega) (by omega)
    cases pp with
    | two p q =>
      have ef : thB h w row t (.two p q) = (rdB h w (row.take t.toNat) p && wlB h w (row.take (t - 1).toNat) q) := if_pos ht
      rw [ef]
      have e3 : (orT (notT (tb (b1 (gD 1) (oIsi "tuple")))) (tb (b2 (c1 (consA (gD 1) nilA) oLen) (fun _ => some (.int 2)) (oEqD true)))) (thN h w row t (.two p q)) = some false :=
        orT_eq (notT_f (tb_eq (by kernel_rfl : (b1 (gD 1) (oIsi "tuple")) (thN h w row t (.two p q)) = some (.bool true)))) fun _ => tb_eq ((b2_eq (x := .int 2) (y := .int 2) rfl rfl).trans (by kernel_rfl))
      refine runS_rt rfl ((seqS_nx (ρ' := thN h w row t (.two p q)) rfl).trans ((seqS_nx ((ifS_f e2).trans rfl)).trans ((seqS_nx ((ifS_f e3).trans rfl)).trans (ret_eq (andV_eq ?_ fun _ => ?_)))))
      · exact (c1_eq (consA_eq rfl (consA_eq rfl (consA_eq s1 (consA_eq (x := tI p) rfl rfl))))).trans (cand_road B.mem hp.1 _)
      · exact (c1_eq (consA_eq rfl (consA_eq rfl (consA_eq s2 (consA_eq (x := tI q) rfl rfl))))).trans (cand_wall B.mem hp.2 _ (sz_mul B.mem))
    | one q =>
      show _ = some (PyData.bool false)
      have en : b2 (c1 (consA (gD 1) nilA) oLen) (fun _ => some (.int 2)) (oEqD true) (thN h w row t (.one q)) = some (.bool (!decide ((q.length : Int) = 2))) := by
        refine (b2_eq (x := .int ((eI q).length : Int)) (y := .int 2) rfl rfl).trans ?_
        rw [eI_len]
        exact ne_ii _ _
      have e3 : (orT (notT (tb (b1 (gD 1) (oIsi "tuple")))) (tb (b2 (c1 (consA (gD 1) nilA) oLen) (fun _ => some (.int 2)) (oEqD true)))) (thN h w row t (.one q)) = some (!decide ((q.length : Int) = 2)) :=
        (orT_eq (notT_f (tb_eq (by kernel_rfl : (b1 (gD 1) (oIsi "tuple")) (thN h w row t (.one q)) = some (.bool true)))) fun _ => tb_eq en).trans (by rw [Bool.false_or])
      by_cases h2 : (q.length : Int) = 2
      · rw [decide_eq_true h2] at e3
        have ix : b2 (gD 1) (fun _ => some (.int 0)) oIx (thN h w row t (.one q)) = some (.int (atL q 0)) := (b2_eq rfl rfl).trans (ix_at q (by omega : 0 < q.length))
        refine runS_rt rfl ((seqS_nx (ρ' := thN h w row t (.one q)) rfl).trans ((seqS_nx ((ifS_f e2).trans rfl)).trans ((seqS_nx ((ifS_f e3).trans rfl)).trans (ret_eq (andV_eq (a := false) (b := true) ?_ fun z => by cases z)))))
        exact (c1_eq (consA_eq rfl (consA_eq rfl (consA_eq s1 (consA_eq ix rfl))))).trans (s_road_int _ _ _ _)
      · rw [decide_eq_false h2] at e3
        exact runS_rt rfl ((seqS_nx (ρ' := thN h w row t (.one q)) rfl).trans ((seqS_nx ((ifS_f e2).trans rfl)).trans (seqS_rt ((ifS_t e3).trans rfl))))
theorem s_takes_shut (pp : Pp) (hp : PpOk h w pp) : F_takes_shut [.tuple [.int (h : Int), .int (w : Int), tI row], eQ pp] = some (.bool (shB' h w row pp)) := by
  refine runS_rt rfl ((seqS_nx (ρ' := [some (.dat (.tuple [.int (h : Int), .int (w : Int), tI row])), some (.dat (eQ pp)), some (.dat (.int (h : Int))), some (.dat (.int (w : Int))), some (.dat (tI row))]) rfl).trans (ret_eq (andV_eq (a := true) (b := shB' h w row pp) ((c1_eq (consA_eq rfl (consA_eq rfl (consA_eq rfl rfl)))).trans (s_opened B)) fun _ => ?_)))
  cases pp with
  | one q => exact (c1_eq (consA_eq rfl (consA_eq rfl (consA_eq rfl (consA_eq (x := tI q) rfl rfl))))).trans (cand_wall B.mem hp _ (sz_mul B.mem))
  | two p q => exact (c1_eq (consA_eq rfl (consA_eq rfl (consA_eq rfl (consA_eq (x := .tuple [tI p, tI q]) rfl rfl))))).trans (s_wall_two _ _ _ _ _)
end
end Qd
end
section
set_option Elab.async false
set_option linter.all false
set_option autoImplicit false
set_option maxRecDepth 100000
set_option maxHeartbeats 1000000
/-! P26: what is told of a board. -/
namespace Qd
open PySem
open PySem.Spec
open L2
theorem imm_eI : ∀ l : List Int, immL (eI l) = true
  | [] => rfl
  | _ :: l => imm_eI l
theorem imm_tI (l : List Int) : imm (tI l) = true := imm_eI l
theorem c1b_eq {g : Nv → Option (List D)} {o : List D → Option D} {ρ : Nv} {ds : List D} {d : D} (h : g ρ = some ds) (h2 : o ds = some d) (h3 : imm d = true) : c1b g o ρ = some d := by
  unfold c1b
  rw [h, Option.bind_some, h2, Option.bind_some, if_pos h3]
theorem s_is_thing (m i : Int) : F_is_thing [.int m, .int i] = some (.bool (inR m i)) :=
  runS_rt rfl (ret_eq (andV_eq (a := true) (by kernel_rfl) fun _ => andV_eq (a := true) (notV_eq (a := false) (by kernel_rfl)) fun _ => ch_eq rfl rfl rfl rfl rfl))
theorem sides_chk : szs.map (fun z => F_check_sides [.int (z.1 : Int), .int (z.2 : Int)]) = szs.map fun _ => some .none := by kernel_rfl
theorem s_check_row (G : Fu) (row : List Int) (hl : row.length ≤ 900) (hg : ∀ i ∈ row, G [.int i] = some (.bool true)) : F_check_row G [tI row] = some .none := by
  have e1 : (notT (tb (b1 (gD 0) (oIsi "tuple")))) (startG 1 3 [tI row] G) = some false := notT_f (tb_eq (by kernel_rfl))
  have key : ∀ (n k : Nat) (x2 : Option En), k + n = row.length → ∃ y2, foS (setN 2) (ifS (notT (tb (fnV 1 (consA (b2 (gD 0) (gD 2) oIx) nilA)))) neverS nextS) ((List.range' k n).map fun (i : Nat) => .int (i : Int)) [some (.dat (tI row)), some (.fn G), x2] = some (.nx [some (.dat (tI row)), some (.fn G), y2]) := by
    intro n
    induction n with
    | zero => exact fun k x2 _ => ⟨x2, rfl⟩
    | succ n ih =>
      intro k x2 hk
      obtain ⟨y2, e⟩ := ih (k + 1) (some (.dat (.int (k : Int)))) (by omega)
      refine ⟨y2, ?_⟩
      have hkl : k < row.length := by omega
      have hix : (b2 (gD 0) (gD 2) oIx) [some (.dat (tI row)), some (.fn G), some (.dat (.int (k : Int)))] = some (.int (atL row k)) := (b2_eq rfl rfl).trans (ix_at row hkl)
      have ef : (fnV 1 (consA (b2 (gD 0) (gD 2) oIx) nilA)) [some (.dat (tI row)), some (.fn G), some (.dat (.int (k : Int)))] = some (.bool true) := by
        unfold fnV
        rw [consA_eq hix rfl]
        exact hg _ (List.mem_of_getElem? (atL_some hkl))
      rw [List.range'_succ, List.map_cons]
      exact (foS_cons (a := setN 2) rfl ((ifS_f (notT_f (tb_eq ef))).trans rfl)).trans e
  obtain ⟨y2, e⟩ := key row.length 0 none (by omega)
  have e2 : itR1 (consA (c1 (consA (gD 0) nilA) oLen) nilA) (startG 1 3 [tI row] G) = some ((List.range' 0 row.length).map fun (i : Nat) => .int (i : Int)) := by
    show (if rgOk (0, ((eI row).length : Int)) = true then some (rgD 0 ((eI row).length : Int)) else none) = _
    rw [eI_len]
    have hk : rgOk (0, (row.length : Int)) = true := decide_eq_true (by show (-1000 : Int) ≤ 0 ∧ (0 : Int) ≤ 1000 ∧ -1000 ≤ (row.length : Int) ∧ (row.length : Int) ≤ 1000; omega)
    rw [if_pos hk, rgD_ks]
    unfold ksN eI
    rw [List.map_map, List.range_eq_range']
    rfl
  show (d_check_row (startG 1 3 [tI row] G)).bind outD = _
  unfold d_check_row
  rw [seqS_nx ((ifS_f e1).trans rfl), forS_eq e2]
  exact congrArg (fun o => Option.bind o outD) e
def KVm (kv : List (Key × V)) (l : List Int) : Prop := ∀ i, (valV kv (.inl i)).isSome = decide (i ∈ l)
theorem KVm.km {kv : List (Key × V)} {l : List Int} (h : KVm kv l) : KM (encK kv) l := fun i => by
  rw [dGet_enc, Option.isSome_map, h i]
theorem KVm.put {kv : List (Key × V)} {l : List Int} (h : KVm kv l) (j : Int) (v : V) : KVm (putK kv (.inl j) v) (l ++ [j]) := fun i => by
  rw [valV_put]
  by_cases z : i = j
  · subst z
    rw [if_pos rfl]
    exact (decide_eq_true (List.mem_append_right _ (List.mem_singleton_self _))).symm
  · rw [if_neg (fun y => z (Sum.inl.inj y)), h i]
    exact decide_eq_decide.mpr (by rw [List.mem_append, List.mem_singleton]; exact ⟨.inl, fun y => y.elim id fun y => absurd y z⟩)
theorem take_at (row : List Int) {j : Nat} (h : j < row.length) : row.take (j + 1) = row.take j ++ [atL row j] := by
  rw [List.take_succ, atL_some h]
  rfl
def SH (h w : Nat) (row q : List Int) : Prop := (∀ j, j ≤ row.length → ∃ q, WL h w (row.take j) q) ∧ WL h w row q
def TH (h w : Nat) (row : List Int) (t : Nat) (p q : List Int) : Prop := 1 ≤ t ∧ t ≤ row.length ∧ (∀ j, j < t → ∃ q, WL h w (row.take j) q) ∧ RD h w (row.take t) p ∧ WL h w (row.take (t - 1)) q
abbrev sN (h w : Nat) (row : List Int) (kv : List (Key × V)) (x4 x5 x6 : Option En) : Nv := [some (.dat (.int (h : Int))), some (.dat (.int (w : Int))), some (.dat (tI row)), some (.odi kv), x4, x5, x6, none]
abbrev sB : Gs := seqS (asgS (c1b (consA (gD 0) (consA (gD 1) (odiA 3))) F_wall) (setN 5)) (seqS (dputS 3 (b2 (gD 2) (gD 4) oIx) (fun _ => some (.bool true))) (seqS (asgS (c1b (consA (gD 0) (consA (gD 1) (odiA 3))) F_open_road) (setN 6)) (ifS (tb (b2 (gD 6) (fun _ => some .none) (oIsN true))) (retS (tupV (consA (fun _ => some (.str "through")) (consA (b2 (gD 4) (fun _ => some (.int 1)) oAdd) (consA (gD 6) (consA (gD 5) nilA)))))) nextS)))
section
variable {h w : Nat} {row : List Int} (B : Bd h w row)
include B
theorem take_in (j : Nat) : ∀ i ∈ row.take j, inR ((h * w : Nat) : Int) i = true := fun i hi => List.all_eq_true.mp B.all i (List.mem_of_mem_take hi)
theorem s_step {kv : List (Key × V)} {j : Nat} (hj : j < row.length) (hk : KVm kv (row.take j)) (hl : kv.length ≤ j) {q : List Int} (hq : WL h w (row.take j) q) (x5 x6 : Option En) :
    (∃ p, RD h w (row.take (j + 1)) p ∧ sB (sN h w row kv (some (.dat (.int (j : Int)))) x5 x6) = some (.rt (.tuple [.str "through", .int ((j + 1 : Nat) : Int), tI p, tI q]))) ∨
    (∃ q' kv', WL h w (row.take (j + 1)) q' ∧ KVm kv' (row.take (j + 1)) ∧ kv'.length ≤ j + 1 ∧ sB (sN h w row kv (some (.dat (.int (j : Int)))) x5 x6) = some (.nx (sN h w row kv' (some (.dat (.int (j : Int)))) (some (.dat (tI q))) (some (.dat .none))))) := by
  have e1 : asgS (c1b (consA (gD 0) (consA (gD 1) (odiA 3))) F_wall) (setN 5) (sN h w row kv (some (.dat (.int (j : Int)))) x5 x6) = some (.nx (sN h w row kv (some (.dat (.int (j : Int)))) (some (.dat (tI q))) x6)) :=
    asg_eq (i := 5) (ρ := sN h w row kv (some (.dat (.int (j : Int)))) x5 x6) (c1b_eq (consA_eq rfl (consA_eq rfl rfl)) (hq.2.2 _ hk.km).2 (imm_tI q))
  have e2 : dputS 3 (b2 (gD 2) (gD 4) oIx) (fun _ => some (.bool true)) (sN h w row kv (some (.dat (.int (j : Int)))) (some (.dat (tI q))) x6) = some (.nx (sN h w row (putK kv (.inl (atL row j)) (.bl true)) (some (.dat (.int (j : Int)))) (some (.dat (tI q))) x6)) := by
    have hix : (b2 (gD 2) (gD 4) oIx) (sN h w row kv (some (.dat (.int (j : Int)))) (some (.dat (tI q))) x6) = some (.int (atL row j)) := (b2_eq rfl rfl).trans (ix_at row hj)
    unfold dputS
    rw [Option.bind_some]
    show (some kv).bind _ = _
    rw [Option.bind_some, hix, Option.bind_some]
    show (some (atL row j)).bind _ = _
    rw [Option.bind_some, if_pos ⟨rfl, Nat.le_trans hl (by have := B.len; exact Nat.le_trans (by omega : j ≤ 20) (by decide))⟩]
    rfl
  have hk' := hk.put (atL row j) (.bl true)
  rw [← take_at row hj] at hk'
  have hl' : (putK kv (.inl (atL row j) : Key) (.bl true)).length ≤ j + 1 := Nat.le_trans (length_putK ..) (by omega)
  rcases rd_or_wl B.mem (row.take (j + 1)) (take_in B (j + 1)) with ⟨p, hp⟩ | ⟨q', hq'⟩
  · refine .inl ⟨p, hp, ?_⟩
    have e3 : asgS (c1b (consA (gD 0) (consA (gD 1) (odiA 3))) F_open_road) (setN 6) (sN h w row (putK kv (.inl (atL row j)) (.bl true)) (some (.dat (.int (j : Int)))) (some (.dat (tI q))) x6) = some (.nx (sN h w row (putK kv (.inl (atL row j)) (.bl true)) (some (.dat (.int (j : Int)))) (some (.dat (tI q))) (some (.dat (tI p))))) :=
      asg_eq (i := 6) (ρ := sN h w row (putK kv (.inl (atL row j)) (.bl true)) (some (.dat (.int (j : Int)))) (some (.dat (tI q))) x6) (c1b_eq (consA_eq rfl (consA_eq rfl rfl)) (hp.2.2 _ hk'.km).1 (imm_tI p))
    refine (seqS_nx e1).trans ((seqS_nx e2).trans ((seqS_nx e3).trans ((ifS_t (tb_eq ((b2_eq (y := .none) rfl rfl).trans rfl))).trans (ret_eq ?_))))
    unfold tupV
    rw [consA_eq (x := .str "through") rfl (consA_eq (x := .int ((j : Int) + 1)) rfl (consA_eq (x := tI p) rfl (consA_eq (x := tI q) rfl rfl)))]
    rfl
  · refine .inr ⟨q', _, hq', hk', hl', ?_⟩
    have e3 : asgS (c1b (consA (gD 0) (consA (gD 1) (odiA 3))) F_open_road) (setN 6) (sN h w row (putK kv (.inl (atL row j)) (.bl true)) (some (.dat (.int (j : Int)))) (some (.dat (tI q))) x6) = some (.nx (sN h w row (putK kv (.inl (atL row j)) (.bl true)) (some (.dat (.int (j : Int)))) (some (.dat (tI q))) (some (.dat .none)))) :=
      asg_eq (i := 6) (ρ := sN h w row (putK kv (.inl (atL row j)) (.bl true)) (some (.dat (.int (j : Int)))) (some (.dat (tI q))) x6) (c1b_eq (consA_eq rfl (consA_eq rfl rfl)) (hq'.2.2 _ hk'.km).1 rfl)
    exact (seqS_nx e1).trans ((seqS_nx e2).trans ((seqS_nx e3).trans ((ifS_f (tb_eq ((b2_eq (y := .none) rfl rfl).trans rfl))).trans rfl)))
theorem s_loop : ∀ (n j : Nat) (kv : List (Key × V)) (x4 x5 x6 : Option En), j + n = row.length → KVm kv (row.take j) → kv.length ≤ j → (∀ i, i ≤ j → ∃ q, WL h w (row.take i) q) →
    (∃ t p q, TH h w row t p q ∧ foS (setN 4) sB ((List.range' j n).map fun (i : Nat) => .int (i : Int)) (sN h w row kv x4 x5 x6) = some (.rt (.tuple [.str "through", .int ((t : Nat) : Int), tI p, tI q]))) ∨
    (∃ kv' y4 y5 y6, KVm kv' row ∧ (∀ i, i ≤ row.length → ∃ q, WL h w (row.take i) q) ∧ foS (setN 4) sB ((List.range' j n).map fun (i : Nat) => .int (i : Int)) (sN h w row kv x4 x5 x6) = some (.nx (sN h w row kv' y4 y5 y6)))
  | 0, j, kv, x4, x5, x6, hj, hk, hl, hw => .inr ⟨kv, x4, x5, x6, by rw [List.take_of_length_le (by omega)] at hk; exact hk, fun i hi => hw i (by omega), rfl⟩
  | n + 1, j, kv, x4, x5, x6, hj, hk, hl, hw => by
    obtain ⟨q, hq⟩ := hw j (Nat.le_refl j)
    rw [List.range'_succ, List.map_cons]
    rcases s_step B (j := j) (by omega) hk hl hq x5 x6 with ⟨p, hp, e⟩ | ⟨q', kv', hq', hk', hl', e⟩
    · exact .inl ⟨j + 1, p, q, ⟨by omega, by omega, fun i hi => hw i (by omega), hp, hq⟩, foS_rt (a := setN 4) rfl e⟩
    · have hw' : ∀ i, i ≤ j + 1 → ∃ q, WL h w (row.take i) q := fun i hi => by
        by_cases z : i = j + 1
        · rw [z]; exact ⟨q', hq'⟩
        · exact hw i (by omega)
      rcases s_loop n (j + 1) kv' (some (.dat (.int (j : Int)))) (some (.dat (tI q))) (some (.dat .none)) (by omega) hk' hl' hw' with ⟨t, p, q2, ht, e'⟩ | ⟨kv2, y4, y5, y6, h1, h2, e'⟩
      · exact .inl ⟨t, p, q2, ht, (foS_cons (a := setN 4) rfl e).trans e'⟩
      · exact .inr ⟨kv2, y4, y5, y6, h1, h2, (foS_cons (a := setN 4) rfl e).trans e'⟩
theorem wl_none : ∃ q, WL h w [] q := by
  rcases rd_or_wl B.mem [] (fun i hi => by cases hi) with ⟨p, hp⟩ | hq
  · have ne : ∀ p ∈ roadsL h w, p ≠ [] := fun p hp z => by
      have c : (szs.all fun z => (roadsL z.1 z.2).all fun p => !p.isEmpty) = true := by decide +kernel
      have c := List.all_eq_true.mp (List.all_eq_true.mp c (h, w) B.mem) p hp
      rw [z] at c
      cases c
    cases p with
    | nil => exact absurd rfl (ne _ hp.1)
    | cons a t => exact absurd (hp.2.1 a List.mem_cons_self) (by simp)
  · exact hq
theorem seeps_at : (∃ t p q, TH h w row t p q ∧ F_seeps [.int (h : Int), .int (w : Int), tI row] = some (.tuple [.str "through", .int ((t : Nat) : Int), tI p, tI q])) ∨ (∃ q, SH h w row q ∧ F_seeps [.int (h : Int), .int (w : Int), tI row] = some (.tuple [.str "shut", tI q])) := by
  have hl := B.len
  have c1' : F_check_sides [.int (h : Int), .int (w : Int)] = some .none := map_at sides_chk (h, w) B.mem
  have g0 : exprS (c1 (consA (gD 0) (consA (gD 1) nilA)) F_check_sides) (startN 3 8 [.int (h : Int), .int (w : Int), tI row]) = some (.nx (startN 3 8 [.int (h : Int), .int (w : Int), tI row])) := by
    unfold exprS
    rw [c1_eq (consA_eq rfl (consA_eq rfl rfl)), c1']
    rfl
  have g1 : exprS (lamV (consA (gD 2) nilA) F_check_row 7 (c1 (consA (b2 (gD 0) (gD 1) oMul) (consA (gD 7) nilA)) F_is_thing)) (startN 3 8 [.int (h : Int), .int (w : Int), tI row]) = some (.nx (startN 3 8 [.int (h : Int), .int (w : Int), tI row])) := by
    have z : lamV (consA (gD 2) nilA) F_check_row 7 (c1 (consA (b2 (gD 0) (gD 1) oMul) (consA (gD 7) nilA)) F_is_thing) (startN 3 8 [.int (h : Int), .int (w : Int), tI row]) = some .none := by
      refine s_check_row _ row (by omega) fun i hi => ?_
      refine (c1_eq (consA_eq ((b2_eq rfl rfl).trans (sz_mul B.mem)) (consA_eq rfl rfl))).trans ((s_is_thing _ i).trans ?_)
      rw [List.all_eq_true.mp B.all i hi]
    unfold exprS
    rw [z]
    rfl
  have e2 : itR1 (consA (c1 (consA (gD 2) nilA) oLen) nilA) (sN h w row [] none none none) = some ((List.range' 0 row.length).map fun (i : Nat) => .int (i : Int)) := by
    show (if rgOk (0, ((eI row).length : Int)) = true then some (rgD 0 ((eI row).length : Int)) else none) = _
    rw [eI_len]
    have hk : rgOk (0, (row.length : Int)) = true := decide_eq_true (by show (-1000 : Int) ≤ 0 ∧ (0 : Int) ≤ 1000 ∧ -1000 ≤ (row.length : Int) ∧ (row.length : Int) ≤ 1000; omega)
    rw [if_pos hk, rgD_ks]
    unfold ksN eI
    rw [List.map_map, List.range_eq_range']
    rfl
  rcases s_loop B row.length 0 [] none none none (by omega) (fun i => rfl) (Nat.le_refl 0) (fun i hi => by rw [Nat.le_zero.mp hi]; exact wl_none B) with ⟨t, p, q, ht, e⟩ | ⟨kv, y4, y5, y6, hk, hw, e⟩
  · exact .inl ⟨t, p, q, ht, runS_rt rfl ((seqS_nx g0).trans ((seqS_nx g1).trans ((seqS_nx (ρ' := sN h w row [] none none none) rfl).trans (seqS_rt ((forS_eq e2).trans e)))))⟩
  · obtain ⟨q, hq⟩ := hw row.length (Nat.le_refl _)
    rw [List.take_length] at hq
    refine .inr ⟨q, ⟨hw, hq⟩, runS_rt rfl ((seqS_nx g0).trans ((seqS_nx g1).trans ((seqS_nx (ρ' := sN h w row [] none none none) rfl).trans ((seqS_nx ((forS_eq e2).trans e)).trans (ret_eq ?_)))))⟩
    have ew : c1b (consA (gD 0) (consA (gD 1) (odiA 3))) F_wall (sN h w row kv y4 y5 y6) = some (tI q) := c1b_eq (consA_eq rfl (consA_eq rfl rfl)) (hq.2.2 _ hk.km).2 (imm_tI q)
    unfold tupV
    rw [consA_eq (x := .str "shut") rfl (consA_eq ew rfl)]
    rfl
theorem paper_at : (∃ t p q, TH h w row t p q ∧ F_paper_seeps [.int (h : Int), .int (w : Int), tI row] = some (.tuple [.tuple [.str "through", .int (h : Int), .int (w : Int), tI row, .int ((t : Nat) : Int)], eQ (.two p q)])) ∨ (∃ q, SH h w row q ∧ F_paper_seeps [.int (h : Int), .int (w : Int), tI row] = some (.tuple [.tuple [.str "shut", .int (h : Int), .int (w : Int), tI row], eQ (.one q)])) := by
  rcases seeps_at B with ⟨t, p, q, ht, e⟩ | ⟨q, hq, e⟩
  · refine .inl ⟨t, p, q, ht, runS_rt rfl ((seqS_nx (asg_eq (i := 3) (ρ := [some (.dat (.int (h : Int))), some (.dat (.int (w : Int))), some (.dat (tI row)), none]) ((c1_eq (consA_eq rfl (consA_eq rfl (consA_eq rfl rfl)))).trans e))).trans ((seqS_nx ((ifS_f (tb_eq ((b2_eq (x := .str "through") rfl rfl).trans (by kernel_rfl)))).trans rfl)).trans (ret_eq ?_)))⟩
    kernel_rfl
  · refine .inr ⟨q, hq, runS_rt rfl ((seqS_nx (asg_eq (i := 3) (ρ := [some (.dat (.int (h : Int))), some (.dat (.int (w : Int))), some (.dat (tI row)), none]) ((c1_eq (consA_eq rfl (consA_eq rfl (consA_eq rfl rfl)))).trans e))).trans (seqS_rt ((ifS_t (tb_eq ((b2_eq (x := .str "shut") rfl rfl).trans (by kernel_rfl)))).trans (ret_eq ?_))))⟩
    kernel_rfl
end
end Qd
end
section
set_option Elab.async false
set_option linter.all false
set_option autoImplicit false
set_option maxRecDepth 100000
set_option maxHeartbeats 1000000
/-! P27: which moments any papers show, in plain words. -/
namespace Qd
open PySem
section
variable {h w : Nat} {row : List Int}
theorem th_inv {t : Int} {pp : Pp} (e : thB h w row t pp = true) : ∃ p q, pp = .two p q ∧ 1 ≤ t ∧ t ≤ row.length ∧ (∀ i ∈ p, i ∈ row.take t.toNat) ∧ roadG h w p = true ∧ (∀ i ∈ q, i ∉ row.take (t - 1).toNat) ∧ wallG h w q = true := by
  cases pp with
  | one q => cases e
  | two p q =>
    by_cases ht : 1 ≤ t ∧ t ≤ row.length
    case neg =>
      have : thB h w row t (.two p q) = false := if_neg ht
      rw [this] at e
      cases e
    case pos =>
      have z : thB h w row t (.two p q) = (rdB h w (row.take t.toNat) p && wlB h w (row.take (t - 1).toNat) q) := if_pos ht
      rw [z] at e
      unfold rdB wlB at e
      simp only [Bool.and_eq_true, List.all_eq_true, decide_eq_true_eq, Bool.not_eq_true', decide_eq_false_iff_not] at e
      exact ⟨p, q, rfl, ht.1, ht.2, e.1.1, e.1.2, e.2.1, e.2.2⟩
theorem road_cand {p : List Int} (h1 : p ∈ roadsL h w) : p ∈ candL h w := List.mem_append_left _ h1
theorem wall_cand {p : List Int} (h1 : p ∈ wallsL h w) : p ∈ candL h w := List.mem_append_right _ h1
variable (hm : (h, w) ∈ szs)
include hm
theorem th_wl {t : Int} {pp : Pp} (ok : PpOk h w pp) {q' : List Int} (hq : WL h w (row.take t.toNat) q') : thB h w row t pp = false := by
  refine (Bool.not_eq_true _).mp fun e => ?_
  obtain ⟨p, q, rfl, h1, h2, h3, h4, h5, h6⟩ := th_inv e
  obtain ⟨i, i1, i2⟩ := cross_at hm ok.1 (wall_cand hq.1) h4 (wall_good hm hq.1)
  exact hq.2.1 i i2 (h3 i i1)
theorem th_rd {t : Int} {pp : Pp} (ok : PpOk h w pp) {T : Nat} (hT : (T : Int) < t) {p' : List Int} (hp : RD h w (row.take T) p') : thB h w row t pp = false := by
  refine (Bool.not_eq_true _).mp fun e => ?_
  obtain ⟨p, q, rfl, h1, h2, h3, h4, h5, h6⟩ := th_inv e
  obtain ⟨i, i1, i2⟩ := cross_at hm (road_cand hp.1) ok.2 (road_good hm hp.1) h6
  refine h5 i i2 ?_
  have z := hp.2.1 i i1
  have e : row.take T = (row.take (t - 1).toNat).take T := by rw [List.take_take, Nat.min_eq_left (by omega)]
  rw [e] at z
  exact List.mem_of_mem_take z
theorem th_now {T : Nat} {p q : List Int} (ht : TH h w row T p q) : thB h w row (T : Int) (.two p q) = true := by
  have z : thB h w row (T : Int) (.two p q) = (rdB h w (row.take (T : Int).toNat) p && wlB h w (row.take ((T : Int) - 1).toNat) q) := if_pos ⟨by have := ht.1; omega, by have := ht.2.1; omega⟩
  have e1 : ((T : Int)).toNat = T := by omega
  have e2 : ((T : Int) - 1).toNat = T - 1 := by omega
  rw [z, e1, e2]
  unfold rdB wlB
  simp only [Bool.and_eq_true, List.all_eq_true, decide_eq_true_eq, Bool.not_eq_true', decide_eq_false_iff_not]
  exact ⟨⟨ht.2.2.2.1.2.1, road_good hm ht.2.2.2.1.1⟩, ht.2.2.2.2.2.1, wall_good hm ht.2.2.2.2.1⟩
theorem sh_rd {pp : Pp} (ok : PpOk h w pp) {T : Nat} {p' : List Int} (hp : RD h w (row.take T) p') : shB' h w row pp = false := by
  refine (Bool.not_eq_true _).mp fun e => ?_
  cases pp with
  | two p q => cases e
  | one q =>
    have e : wlB h w row q = true := e
    unfold wlB at e
    simp only [Bool.and_eq_true, List.all_eq_true, decide_eq_true_eq, Bool.not_eq_true', decide_eq_false_iff_not] at e
    obtain ⟨i, i1, i2⟩ := cross_at hm (road_cand hp.1) ok (road_good hm hp.1) e.2
    exact e.1 i i2 (List.mem_of_mem_take (hp.2.1 i i1))
theorem sh_now {q : List Int} (hq : SH h w row q) : shB' h w row (.one q) = true := by
  show wlB h w row q = true
  unfold wlB
  simp only [Bool.and_eq_true, List.all_eq_true, decide_eq_true_eq, Bool.not_eq_true', decide_eq_false_iff_not]
  exact ⟨hq.2.2.1, wall_good hm hq.2.1⟩
end
theorem filter_one (T : Nat) : ∀ n : Nat, (ksN n).filter (fun t => decide (t = (T : Int))) = if T < n then [(T : Int)] else []
  | 0 => rfl
  | n + 1 => by
    rw [ksN_succ, List.filter_append, filter_one T n]
    by_cases z : n = T
    · subst z
      rw [if_neg (by omega), if_pos (by omega), List.filter_cons_of_pos (by simp)]
      rfl
    · rw [List.filter_cons_of_neg (by simp; omega), List.filter_nil, List.append_nil]
      by_cases y : T < n
      · rw [if_pos y, if_pos (by omega)]
      · rw [if_neg y, if_neg (by omega)]
def takenB (h w : Nat) (row : List Int) (tl : List Pp) : List Int := (ksN (row.length + 2)).filter fun t => tl.any (thB h w row t)
theorem taken_sh {h w : Nat} {row : List Int} (hm : (h, w) ∈ szs) {tl : List Pp} (ok : ∀ pp ∈ tl, PpOk h w pp) {q : List Int} (hq : SH h w row q) : takenB h w row tl = [] := by
  refine List.filter_eq_nil_iff.mpr fun t ht z => ?_
  obtain ⟨pp, hp, z⟩ := List.any_eq_true.mp z
  obtain ⟨_, _, _, h1, h2, _⟩ := th_inv z
  obtain ⟨q', hq'⟩ := hq.1 t.toNat (by omega)
  rw [th_wl hm (ok pp hp) hq'] at z
  cases z
theorem taken_th {h w : Nat} {row : List Int} (hm : (h, w) ∈ szs) {tl : List Pp} (ok : ∀ pp ∈ tl, PpOk h w pp) {T : Nat} {p q : List Int} (ht : TH h w row T p q) (hi : .two p q ∈ tl) : takenB h w row tl = [(T : Int)] := by
  have e : takenB h w row tl = (ksN (row.length + 2)).filter fun t => decide (t = (T : Int)) := by
    refine List.filter_congr fun t htk => ?_
    obtain ⟨j, hj, rfl⟩ := ksN_mem htk
    by_cases z : j = T
    · subst z
      rw [decide_eq_true rfl]
      exact List.any_eq_true.mpr ⟨_, hi, th_now hm ht⟩
    · rw [decide_eq_false (by omega)]
      refine (Bool.not_eq_true _).mp fun y => ?_
      obtain ⟨pp, hp, y⟩ := List.any_eq_true.mp y
      by_cases c : j < T
      · obtain ⟨q', hq'⟩ := ht.2.2.1 j c
        rw [th_wl hm (ok pp hp) (t := (j : Int)) (by rw [Int.toNat_natCast]; exact hq')] at y
        cases y
      · rw [th_rd hm (ok pp hp) (t := (j : Int)) (by omega) ht.2.2.2.1] at y
        cases y
  rw [e, filter_one, if_pos (by have := ht.2.1; omega)]
theorem shut_sh {h w : Nat} {row : List Int} (hm : (h, w) ∈ szs) {tl : List Pp} {q : List Int} (hq : SH h w row q) (hi : .one q ∈ tl) : tl.any (shB' h w row) = true := List.any_eq_true.mpr ⟨_, hi, sh_now hm hq⟩
theorem shut_th {h w : Nat} {row : List Int} (hm : (h, w) ∈ szs) {tl : List Pp} (ok : ∀ pp ∈ tl, PpOk h w pp) {T : Nat} {p q : List Int} (ht : TH h w row T p q) : tl.any (shB' h w row) = false := by
  refine (Bool.not_eq_true _).mp fun y => ?_
  obtain ⟨pp, hp, y⟩ := List.any_eq_true.mp y
  rw [sh_rd hm (ok pp hp) ht.2.2.2.1] at y
  cases y
end Qd
end
section
set_option Elab.async false
set_option linter.all false
set_option autoImplicit false
set_option maxRecDepth 100000
set_option maxHeartbeats 1000000
/-! P28: board_right answers True. -/
namespace Qd
open PySem
open PySem.Spec
def kThr : KEnt := ⟨"through", 4, F_takes_through⟩
def kShut : KEnt := ⟨"shut", 3, F_takes_shut⟩
theorem f_thr : (ktab.find? fun q => decide (q.word = ("through" : Str))) = some kThr := by kernel_rfl
theorem f_shut : (ktab.find? fun q => decide (q.word = ("shut" : Str))) = some kShut := by kernel_rfl
theorem eq_one (t : Int) : oEqD false (lI [t]) (lI [t]) = some (.bool true) := by
  have h : SeqAt.shaped (lI [t]) = true := LayK.sh (k := 1) (lay_lst (lay_eI 0 [t])) (by decide)
  unfold oEqD
  rw [h]
  have e : PyData.eqv (lI [t]) (lI [t]) = true := by simp [eI, PyData.eqv, PyData.eqvAll]
  show (if (true && true) = true then some (PyData.bool (if false = true then !PyData.eqv (lI [t]) (lI [t]) else PyData.eqv (lI [t]) (lI [t]))) else none) = _
  rw [e]
  rfl
theorem sl_takeG {f g : Nv → Option D} {ρ : Nv} {row : List Int} {k : Nat} (h1 : f ρ = some (tI row)) (h2 : g ρ = some (.int (k : Int))) (hk : k ≤ row.length) : slV f noP (someP g) oSlT ρ = some (tI (row.take k)) := by
  unfold slV
  rw [h1, Option.bind_some]
  show (some none).bind _ = _
  rw [Option.bind_some]
  unfold someP
  rw [h2]
  show some (PyData.tuple (cutD (eI row) none (some (k : Int)))) = _
  rw [cut_take (eI row) k (by omega) (by rw [eI_len]; omega)]
  unfold eI
  rw [← List.map_take]
  rfl
theorem Bd.take {h w : Nat} {row : List Int} (B : Bd h w row) (k : Nat) : Bd h w (row.take k) := ⟨B.mem, List.all_eq_true.mpr (take_in B k), by rw [List.length_take]; have := B.len; omega⟩
/-- what the moment J tells -/
def Told (h w : Nat) (row : List Int) (j : Nat) (tl : List Pp) : Prop := (∃ t p q, TH h w (row.take j) t p q ∧ .two p q ∈ tl ∧ F_paper_seeps [.int (h : Int), .int (w : Int), tI (row.take j)] = some (.tuple [.tuple [.str "through", .int (h : Int), .int (w : Int), tI (row.take j), .int ((t : Nat) : Int)], eQ (.two p q)])) ∨ ∃ q, SH h w (row.take j) q ∧ .one q ∈ tl ∧ F_paper_seeps [.int (h : Int), .int (w : Int), tI (row.take j)] = some (.tuple [.tuple [.str "shut", .int (h : Int), .int (w : Int), tI (row.take j)], eQ (.one q)])
theorem Told.mono {h w : Nat} {row : List Int} {j : Nat} {tl tl' : List Pp} (t : Told h w row j tl) (s : ∀ pp ∈ tl, pp ∈ tl') : Told h w row j tl' := by
  rcases t with ⟨t, p, q, h1, h2, h3⟩ | ⟨q, h1, h2, h3⟩
  · exact .inl ⟨t, p, q, h1, s _ h2, h3⟩
  · exact .inr ⟨q, h1, s _ h2, h3⟩
abbrev qN (h w : Nat) (row : List Int) (x3 x4 x5 x6 x7 x8 x9 : Option En) : Nv := [some (.dat (.int (h : Int))), some (.dat (.int (w : Int))), some (.dat (tI row)), x3, x4, x5, x6, x7, x8, x9]
abbrev q1B : Gs := seqS (asgS (c1 (consA (gD 0) (consA (gD 1) (consA (slV (gD 2) noP (someP (gD 4)) oSlT) nilA))) F_paper_seeps) (tupG 2 (consG (setN 5) (consG (setN 9) nilG)))) (seqS (appS 3 (gD 9)) (ifS (tb (b2 (b2 (gD 5) (fun _ => some (.int 0)) oIx) (fun _ => some (.str "shut")) (oEqD false))) (ownS 3 (ownCat 3 (lsV (lstV (consA (tupV (consA (gD 9) (consA (gD 9) nilA))) nilA))))) nextS))
abbrev oQ (tl : List Pp) : Option En := some (.own (tl.map eQ))
section
variable {h w : Nat} {row : List Int} (B : Bd h w row)
include B
theorem ap_q (tl : List Pp) (hl : tl.length ≤ 500) (pp : Pp) (x4 x5 : Option En) : appS 3 (gD 9) (qN h w row (oQ tl) x4 x5 none none none (some (.dat (eQ pp)))) = some (.nx (qN h w row (oQ (tl ++ [pp])) x4 x5 none none none (some (.dat (eQ pp))))) := by
  show (if (tl.map eQ).length ≤ lim then some (Out.nx (qN h w row (some (.own (tl.map eQ ++ [eQ pp]))) x4 x5 none none none (some (.dat (eQ pp))))) else none) = _
  rw [if_pos (by rw [List.length_map]; exact Nat.le_trans hl (by decide))]
  have e : tl.map eQ ++ [eQ pp] = (tl ++ [pp]).map eQ := by rw [List.map_append]; rfl
  rw [e]
theorem q1_step (tl : List Pp) (hl : tl.length ≤ 400) (ok : ∀ pp ∈ tl, PpOk h w pp) (j : Nat) (hj : j ≤ row.length) (x5 x9 : Option En) : ∃ (tl' : List Pp) (y5 y9 : Option En), (∀ pp ∈ tl, pp ∈ tl') ∧ (∀ pp ∈ tl', PpOk h w pp) ∧ tl'.length ≤ tl.length + 2 ∧ Told h w row j tl' ∧ q1B (qN h w row (oQ tl) (some (.dat (.int (j : Int)))) x5 none none none x9) = some (.nx (qN h w row (oQ tl') (some (.dat (.int (j : Int)))) y5 none none none y9)) := by
  have sl : slV (gD 2) noP (someP (gD 4)) oSlT (qN h w row (oQ tl) (some (.dat (.int (j : Int)))) x5 none none none x9) = some (tI (row.take j)) := sl_takeG rfl rfl hj
  have mk : ∀ (cl : D) (pp : Pp), F_paper_seeps [.int (h : Int), .int (w : Int), tI (row.take j)] = some (.tuple [cl, eQ pp]) → asgS (c1 (consA (gD 0) (consA (gD 1) (consA (slV (gD 2) noP (someP (gD 4)) oSlT) nilA))) F_paper_seeps) (tupG 2 (consG (setN 5) (consG (setN 9) nilG))) (qN h w row (oQ tl) (some (.dat (.int (j : Int)))) x5 none none none x9) = some (.nx (qN h w row (oQ tl) (some (.dat (.int (j : Int)))) (some (.dat cl)) none none none (some (.dat (eQ pp))))) := fun cl pp e => by
    unfold asgS
    rw [c1_eq (consA_eq rfl (consA_eq rfl (consA_eq sl rfl))), e]
    rfl
  rcases paper_at (B.take j) with ⟨t, p, q, ht, e⟩ | ⟨q, hq, e⟩
  · refine ⟨tl ++ [Pp.two p q], _, _, fun pp z => List.mem_append_left _ z, fun pp z => ?_, by rw [List.length_append, List.length_singleton]; omega, .inl ⟨t, p, q, ht, List.mem_append_right _ (List.mem_singleton_self _), e⟩, (seqS_nx (mk _ _ e)).trans ((seqS_nx (ap_q B tl (by omega) (.two p q) _ _)).trans ((ifS_f (tb_eq ((b2_eq (x := .str "through") rfl rfl).trans (by kernel_rfl)))).trans rfl))⟩
    rcases List.mem_append.mp z with z | z
    · exact ok pp z
    · rw [List.mem_singleton.mp z]
      exact ⟨road_cand ht.2.2.2.1.1, wall_cand ht.2.2.2.2.1⟩
  · have ok1 : PpOk h w (.one q) := wall_cand hq.2.1
    have e3 : ownS 3 (ownCat 3 (lsV (lstV (consA (tupV (consA (gD 9) (consA (gD 9) nilA))) nilA)))) (qN h w row (oQ (tl ++ [Pp.one q])) (some (.dat (.int (j : Int)))) (some (.dat (.tuple [.str "shut", .int (h : Int), .int (w : Int), tI (row.take j)]))) none none none (some (.dat (eQ (.one q))))) = some (.nx (qN h w row (oQ (tl ++ [Pp.one q] ++ [Pp.two q q])) (some (.dat (.int (j : Int)))) (some (.dat (.tuple [.str "shut", .int (h : Int), .int (w : Int), tI (row.take j)]))) none none none (some (.dat (eQ (.one q)))))) := by
      refine own_eq (i := 3) (ds := (tl ++ [Pp.one q] ++ [Pp.two q q]).map eQ) ?_
      show (if ((tl ++ [Pp.one q]).map eQ).length + 1 ≤ lim then some ((tl ++ [Pp.one q]).map eQ ++ [.tuple [tI q, tI q]]) else none) = _
      rw [if_pos (by rw [List.length_map, List.length_append, List.length_singleton]; exact Nat.le_trans (by omega : tl.length + 1 + 1 ≤ 500) (by decide)), List.map_append (l₁ := tl ++ [Pp.one q])]
      rfl
    refine ⟨tl ++ [Pp.one q] ++ [Pp.two q q], _, _, fun pp z => List.mem_append_left _ (List.mem_append_left _ z), fun pp z => ?_, by rw [List.length_append, List.length_append, List.length_singleton, List.length_singleton]; omega, .inr ⟨q, hq, List.mem_append_left _ (List.mem_append_right _ (List.mem_singleton_self _)), e⟩, (seqS_nx (mk _ _ e)).trans ((seqS_nx (ap_q B tl (by omega) (.one q) _ _)).trans ((ifS_t (tb_eq ((b2_eq (x := .str "shut") rfl rfl).trans (by kernel_rfl)))).trans e3))⟩
    rcases List.mem_append.mp z with z | z
    · rcases List.mem_append.mp z with z | z
      · exact ok pp z
      · rw [List.mem_singleton.mp z]
        exact ok1
    · rw [List.mem_singleton.mp z]
      exact ⟨ok1, ok1⟩
theorem q1_loop : ∀ (n j : Nat) (tl : List Pp) (x4 x5 x9 : Option En), j + n ≤ row.length + 1 → tl.length + 2 * n ≤ 400 → (∀ pp ∈ tl, PpOk h w pp) → ∃ (tl' : List Pp) (y4 y5 y9 : Option En), (∀ pp ∈ tl, pp ∈ tl') ∧ (∀ pp ∈ tl', PpOk h w pp) ∧ tl'.length ≤ tl.length + 2 * n ∧ (∀ i, j ≤ i → i < j + n → Told h w row i tl') ∧ foS (setN 4) q1B ((List.range' j n).map fun (i : Nat) => .int (i : Int)) (qN h w row (oQ tl) x4 x5 none none none x9) = some (.nx (qN h w row (oQ tl') y4 y5 none none none y9))
  | 0, j, tl, x4, x5, x9, _, _, ok => ⟨tl, x4, x5, x9, fun _ z => z, ok, by omega, fun i h1 h2 => by omega, rfl⟩
  | n + 1, j, tl, x4, x5, x9, hj, hl, ok => by
    obtain ⟨tl1, y5, y9, s1, ok1, l1, t1, e1⟩ := q1_step B tl (by omega) ok j (by omega) x5 x9
    obtain ⟨tl2, z4, z5, z9, s2, ok2, l2, t2, e2⟩ := q1_loop n (j + 1) tl1 (some (.dat (.int (j : Int)))) y5 y9 (by omega) (by omega) ok1
    refine ⟨tl2, z4, z5, z9, fun pp z => s2 pp (s1 pp z), ok2, by omega, fun i h1 h2 => ?_, ?_⟩
    · by_cases z : i = j
      · subst z; exact t1.mono s2
      · exact t2 i (by omega) (by omega)
    · rw [List.range'_succ, List.map_cons]
      exact (foS_cons (a := setN 4) rfl e1).trans e2
/-! ### the moments taken -/
abbrev q2B : Gs := seqS (asgS (lsV (lcV (itL (gD 3)) (setN 9) (tb (c1 (consA (tupV (consA (fun _ => some (.str "through")) (consA (gD 0) (consA (gD 1) (consA (gD 2) (consA (gD 4) nilA)))))) (consA (gD 9) nilA)) F_holds)) (gD 9) [9])) (setN 8)) (ifS (tb (b2 (gD 8) (lsV (lstV nilA)) (oEqD true))) (appS 6 (gD 4)) nextS)
abbrev dQ (tl : List Pp) : Option En := some (.dat (.list (tl.map eQ)))
abbrev oI' (l : List Int) : Option En := some (.own (eI l))
omit B in
theorem lay_eQ (pp : Pp) : LayK 2 (eQ pp) := by
  cases pp with
  | one q => exact (lay_tI q).mono (by decide)
  | two p q =>
      refine lay_tup fun d hd => ?_
      simp only [List.mem_cons, List.not_mem_nil, or_false] at hd
      rcases hd with rfl | rfl
      · exact lay_tI p
      · exact lay_tI q
omit B in
theorem lay_lQ (tl : List Pp) : SeqAt.shaped (.list (tl.map eQ)) = true := LayK.sh (k := 3) (lay_lst fun d hd => by
  obtain ⟨pp, _, rfl⟩ := List.mem_map.mp hd
  exact lay_eQ pp) (by decide)
theorem h_thr (t : Int) (pp : Pp) (ok : PpOk h w pp) : F_holds [.tuple (.str "through" :: [.int (h : Int), .int (w : Int), tI row, .int t]), eQ pp] = some (.bool (thB h w row t pp)) := by
  refine (h_any (as := [.int (h : Int), .int (w : Int), tI row, .int t]) (p := eQ pp) f_thr rfl (LayK.sh (k := 2) (lay_tup fun d hd => ?_) (by decide))).trans (s_takes_through B t pp ok)
  simp only [List.mem_cons, List.not_mem_nil, or_false] at hd
  rcases hd with rfl | rfl | rfl | rfl | rfl
  · exact lay_str 1 _ (by kernel_rfl)
  · exact lay_int 1 _
  · exact lay_int 1 _
  · exact lay_tI row
  · exact lay_int 1 _
theorem h_shut (pp : Pp) (ok : PpOk h w pp) : F_holds [.tuple (.str "shut" :: [.int (h : Int), .int (w : Int), tI row]), eQ pp] = some (.bool (shB' h w row pp)) := by
  refine (h_any (as := [.int (h : Int), .int (w : Int), tI row]) (p := eQ pp) f_shut rfl (LayK.sh (k := 2) (lay_tup fun d hd => ?_) (by decide))).trans (s_takes_shut B pp ok)
  simp only [List.mem_cons, List.not_mem_nil, or_false] at hd
  rcases hd with rfl | rfl | rfl | rfl
  · exact lay_str 1 _ (by kernel_rfl)
  · exact lay_int 1 _
  · exact lay_int 1 _
  · exact lay_tI row
theorem q2_step (tl : List Pp) (hl : tl.length ≤ 500) (ok : ∀ pp ∈ tl, PpOk h w pp) (t : Int) (x5 x8 x9 : Option En) (tk : List Int) (hk : tk.length ≤ 100) : ∃ (y8 : Option En), q2B (qN h w row (dQ tl) (some (.dat (.int t))) x5 (oI' tk) none x8 x9) = some (.nx (qN h w row (dQ tl) (some (.dat (.int t))) x5 (oI' (tk ++ [t].filter fun t => tl.any (thB h w row t))) none y8 x9)) := by
  have e1 : (lcV (itL (gD 3)) (setN 9) (tb (c1 (consA (tupV (consA (fun _ => some (.str "through")) (consA (gD 0) (consA (gD 1) (consA (gD 2) (consA (gD 4) nilA)))))) (consA (gD 9) nilA)) F_holds)) (gD 9) [9]) (qN h w row (dQ tl) (some (.dat (.int t))) x5 (oI' tk) none x8 x9) = some ((tl.filter (thB h w row t)).map eQ) :=
    lcV_enc (enc := eQ) (thB h w row t) eQ tl (itL_eq rfl (by rw [List.length_map]; omega)) (by omega) fun pp hp => ⟨_, rfl, tb_eq ((c1_eq (consA_eq rfl (consA_eq rfl rfl))).trans (h_thr B t pp (ok pp hp))), fun _ => rfl⟩
  have e2 : (b2 (gD 8) (lsV (lstV nilA)) (oEqD true)) (qN h w row (dQ tl) (some (.dat (.int t))) x5 (oI' tk) none (some (.dat (.list ((tl.filter (thB h w row t)).map eQ)))) x9) = some (.bool (tl.any (thB h w row t))) := by
    have z := eq_lnil true ((tl.filter (thB h w row t)).map eQ) (lay_lQ _)
    rw [if_pos rfl, List.isEmpty_map, filter_isEmpty, Bool.not_not] at z
    exact z
  refine ⟨some (.dat (.list ((tl.filter (thB h w row t)).map eQ))), (seqS_nx (asg_eq (i := 8) (ρ := qN h w row (dQ tl) (some (.dat (.int t))) x5 (oI' tk) none x8 x9) (ls_eq e1))).trans ?_⟩
  cases hb : tl.any (thB h w row t) with
  | true =>
    rw [hb] at e2
    refine (ifS_t (tb_eq e2)).trans ?_
    rw [List.filter_cons_of_pos (by exact hb), List.filter_nil]
    show (if (eI tk).length ≤ lim then some (Out.nx (qN h w row (dQ tl) (some (.dat (.int t))) x5 (some (.own (eI tk ++ [.int t]))) none _ x9)) else none) = _
    rw [if_pos (by rw [eI_len]; exact Nat.le_trans hk (by decide))]
    have e : eI tk ++ [.int t] = eI (tk ++ [t]) := by unfold eI; rw [List.map_append]; rfl
    rw [e]
  | false =>
    rw [hb] at e2
    refine (ifS_f (tb_eq e2)).trans ?_
    rw [List.filter_cons_of_neg (by rw [hb]; simp), List.filter_nil, List.append_nil]
    rfl
theorem q2_loop (tl : List Pp) (hl : tl.length ≤ 500) (ok : ∀ pp ∈ tl, PpOk h w pp) (x5 : Option En) : ∀ (ks : List Int) (tk : List Int) (x4 x8 x9 : Option En), tk.length + ks.length ≤ 100 → ∃ (y4 y8 y9 : Option En), foS (setN 4) q2B (eI ks) (qN h w row (dQ tl) x4 x5 (oI' tk) none x8 x9) = some (.nx (qN h w row (dQ tl) y4 x5 (oI' (tk ++ ks.filter fun t => tl.any (thB h w row t))) none y8 y9))
  | [], tk, x4, x8, x9, _ => ⟨x4, x8, x9, by rw [List.filter_nil, List.append_nil]; rfl⟩
  | t :: ks, tk, x4, x8, x9, hl' => by
    rw [List.length_cons] at hl'
    obtain ⟨y8, e1⟩ := q2_step B tl hl ok t x5 x8 x9 tk (by omega)
    obtain ⟨z4, z8, z9, e2⟩ := q2_loop tl hl ok x5 ks (tk ++ [t].filter fun t => tl.any (thB h w row t)) (some (.dat (.int t))) y8 x9 (by
      rw [List.length_append]
      have := List.length_filter_le (fun t => tl.any (thB h w row t)) [t]
      rw [List.length_singleton] at this
      omega)
    refine ⟨z4, z8, z9, ?_⟩
    have e3 : tk ++ (t :: ks).filter (fun t => tl.any (thB h w row t)) = tk ++ [t].filter (fun t => tl.any (thB h w row t)) ++ ks.filter fun t => tl.any (thB h w row t) := by
      rw [List.append_assoc, ← List.filter_append]
      rfl
    rw [e3]
    exact (foS_cons (a := setN 4) rfl e1).trans e2
theorem board_right : F_law_board_right [.int (h : Int), .int (w : Int), tI row] = some (.bool true) := by
  have hl := B.len
  obtain ⟨tl, y4, y5, y9, -, ok, l1, told, e1⟩ := q1_loop B (row.length + 1) 0 [] none none none (by omega) (by show 0 + _ ≤ 400; omega) (fun pp z => by cases z)
  have rg : ∀ (n : Nat) (hn : n ≤ 500) (f : Nv → Option D) (ρ : Nv), f ρ = some (.int (n : Int)) → itR1 (consA f nilA) ρ = some (eI (ksN n)) := fun n hn f ρ e => by
    unfold itR1
    rw [consA_eq e rfl]
    show (if rgOk (0, (n : Int)) = true then some (rgD 0 (n : Int)) else none) = _
    have hk : rgOk (0, (n : Int)) = true := decide_eq_true (by show (-1000 : Int) ≤ 0 ∧ (0 : Int) ≤ 1000 ∧ -1000 ≤ (n : Int) ∧ (n : Int) ≤ 1000; omega)
    rw [if_pos hk, rgD_ks]
  have ln : ∀ (ρ : Nv) (c : Nat), gD 2 ρ = some (tI row) → (b2 (c1 (consA (gD 2) nilA) oLen) (fun _ => some (.int (c : Int))) oAdd) ρ = some (.int ((row.length + c : Nat) : Int)) := fun ρ c e => by
    refine (b2_eq (x := .int ((eI row).length : Int)) ((c1_eq (consA_eq e rfl)).trans rfl) rfl).trans ?_
    rw [eI_len]
    rfl
  have ek : (eI (ksN (row.length + 1))) = (List.range' 0 (row.length + 1)).map fun (i : Nat) => .int (i : Int) := by
    unfold ksN eI
    rw [List.map_map, List.range_eq_range']
    rfl
  rw [← ek] at e1
  have key : ∀ cl : D, ∃ (t4 t8 t9 : Option En), foS (setN 4) q2B (eI (ksN (row.length + 2))) (qN h w row (dQ tl) y4 (some (.dat cl)) (oI' []) none none y9) = some (.nx (qN h w row (dQ tl) t4 (some (.dat cl)) (oI' (takenB h w row tl)) none t8 t9)) := fun cl =>
    q2_loop B tl (by simp at l1; omega) ok (some (.dat cl)) (ksN (row.length + 2)) [] y4 none y9 (by rw [ksN_len]; simp; omega)
  have sh : ∀ (x4 x5 x6 x8 x9 : Option En), c1 (consA (lsV (lcV (itL (gD 3)) (setN 9) yesT (c1 (consA (tupV (consA (fun _ => some (.str "shut")) (consA (gD 0) (consA (gD 1) (consA (gD 2) nilA))))) (consA (gD 9) nilA)) F_holds) [9])) nilA) oAny (qN h w row (dQ tl) x4 x5 x6 none x8 x9) = some (.bool (tl.any (shB' h w row))) := fun x4 x5 x6 x8 x9 =>
    any_enc (enc := eQ) (shB' h w row) tl (itL_eq rfl (by rw [List.length_map]; simp at l1; omega)) (by simp at l1; omega) fun pp hp => ⟨_, rfl, (c1_eq (consA_eq rfl (consA_eq rfl rfl))).trans (h_shut B pp (ok pp hp))⟩
  have td := told row.length (by omega) (by omega)
  unfold Told at td
  rw [List.take_length] at td
  have g0 : ownS 3 (lstV nilA) (startN 3 10 [.int (h : Int), .int (w : Int), tI row]) = some (.nx (qN h w row (oQ []) none none none none none none)) := rfl
  have g1 := (forS_eq (a := setN 4) (b := q1B) (ρ := qN h w row (oQ []) none none none none none none) (rg (row.length + 1) (by omega) _ _ (ln _ 1 rfl))).trans e1
  have fin : ∀ (cl : D) (pp : Pp), F_paper_seeps [.int (h : Int), .int (w : Int), tI row] = some (.tuple [cl, eQ pp]) → ∃ (t4 t8 t9 : Option En), d_law_board_right (startN 3 10 [.int (h : Int), .int (w : Int), tI row]) = (seqS (ifS (tb (b2 (b2 (gD 5) (fun _ => some (.int 0)) oIx) (fun _ => some (.str "shut")) (oEqD false))) (frzS 6 (retS (andV (gD 7) (b2 (gD 6) (lsV (lstV nilA)) (oEqD false))))) nextS) (frzS 6 (retS (andV (notV (gD 7)) (b2 (gD 6) (lsV (lstV (consA (b2 (gD 5) (fun _ => some (.int 4)) oIx) nilA))) (oEqD false)))))) (qN h w row (dQ tl) t4 (some (.dat cl)) (oI' (takenB h w row tl)) (some (.dat (.bool (tl.any (shB' h w row))))) t8 t9) := fun cl pp e => by
    obtain ⟨t4, t8, t9, e2⟩ := key cl
    refine ⟨t4, t8, t9, (seqS_nx g0).trans ((seqS_nx g1).trans ((seqS_nx (asg_eq (i := 5) (ρ := qN h w row (oQ tl) y4 y5 none none none y9) (d := cl) ?_)).trans ((seqS_nx (ρ' := qN h w row (oQ tl) y4 (some (.dat cl)) (oI' []) none none y9) rfl).trans (Eq.trans (b := seqS (forS (itR1 (consA (b2 (c1 (consA (gD 2) nilA) oLen) (fun _ => some (.int 2)) oAdd) nilA)) (setN 4) q2B) _ (qN h w row (dQ tl) y4 (some (.dat cl)) (oI' []) none none y9)) rfl ((seqS_nx ((forS_eq (rg (row.length + 2) (by omega) _ _ (ln _ 2 rfl))).trans e2)).trans (seqS_nx (asg_eq (i := 7) (sh _ _ _ _ _))))))))⟩
    exact (b2_eq ((c1_eq (consA_eq rfl (consA_eq rfl (consA_eq rfl rfl)))).trans e) rfl).trans rfl
  rcases td with ⟨T, p, q, ht, hin, e⟩ | ⟨q, hq, hin, e⟩
  · obtain ⟨t4, t8, t9, ef⟩ := fin _ _ e
    rw [taken_th B.mem ok ht hin, shut_th B.mem ok ht] at ef
    refine runS_rt rfl (ef.trans ((seqS_nx ((ifS_f (tb_eq ((b2_eq (x := .str "through") rfl rfl).trans (by kernel_rfl)))).trans rfl)).trans ?_))
    have e6 : (b2 (gD 6) (lsV (lstV (consA (b2 (gD 5) (fun _ => some (.int 4)) oIx) nilA))) (oEqD false)) (qN h w row (dQ tl) t4 (some (.dat (.tuple [.str "through", .int (h : Int), .int (w : Int), tI row, .int ((T : Nat) : Int)]))) (some (.dat (lI [(T : Int)]))) (some (.dat (.bool false))) t8 t9) = some (.bool true) := (b2_eq (x := lI [(T : Int)]) (y := lI [(T : Int)]) rfl rfl).trans (eq_one _)
    have e7 : (andV (notV (gD 7)) (b2 (gD 6) (lsV (lstV (consA (b2 (gD 5) (fun _ => some (.int 4)) oIx) nilA))) (oEqD false))) (qN h w row (dQ tl) t4 (some (.dat (.tuple [.str "through", .int (h : Int), .int (w : Int), tI row, .int ((T : Nat) : Int)]))) (some (.dat (lI [(T : Int)]))) (some (.dat (.bool false))) t8 t9) = some (.bool true) := andV_eq (a := true) (b := true) (notV_eq (a := false) rfl) fun _ => e6
    exact ret_eq e7
  · obtain ⟨t4, t8, t9, ef⟩ := fin _ _ e
    rw [taken_sh B.mem ok hq, shut_sh B.mem hq hin] at ef
    refine runS_rt rfl (ef.trans (seqS_rt ((ifS_t (tb_eq ((b2_eq (x := .str "shut") rfl rfl).trans (by kernel_rfl)))).trans ?_)))
    have e6 : (b2 (gD 6) (lsV (lstV nilA)) (oEqD false)) (qN h w row (dQ tl) t4 (some (.dat (.tuple [.str "shut", .int (h : Int), .int (w : Int), tI row]))) (some (.dat (lI []))) (some (.dat (.bool true))) t8 t9) = some (.bool true) := (b2_eq (x := lI []) (y := .list []) rfl rfl).trans (by kernel_rfl)
    have e7 : (andV (gD 7) (b2 (gD 6) (lsV (lstV nilA)) (oEqD false))) (qN h w row (dQ tl) t4 (some (.dat (.tuple [.str "shut", .int (h : Int), .int (w : Int), tI row]))) (some (.dat (lI []))) (some (.dat (.bool true))) t8 t9) = some (.bool true) := andV_eq (a := true) (b := true) rfl fun _ => e6
    exact ret_eq e7
end
end Qd
end
section
set_option Elab.async false
set_option linter.all false
set_option autoImplicit false
set_option maxRecDepth 100000
set_option maxHeartbeats 1000000
/-! P29: the law itself, statement by statement. -/
namespace Qd
open PySem
open PySem.Spec
abbrev lw0 : Gs := (asgS (c1 (consA (c1 (consA (gD 0) (consA (fun _ => some (.int 40)) nilA)) F_law_cell) (consA (fun _ => some (.int 24)) nilA)) F_law_numbers) (setN 1))
abbrev lw1 : Gs := (asgS (b2 (fun _ => some (.int 2)) (b2 (b2 (gD 1) (fun _ => some (.int 0)) oIx) (fun _ => some (.int 3)) (oIC cMod fun i j => i % j)) oAdd) (setN 2))
abbrev lw2 : Gs := (asgS (c1 (consA (gD 0) (consA (fun _ => some (.int 0)) (consA (gD 2) (consA (fun _ => some (.int 4)) nilA)))) F_law_joins) (setN 3))
abbrev lw3 : Gs := (asgS (b2 (b2 (gD 1) (fun _ => some (.int 1)) oIx) (gD 2) (oIC cMod fun i j => i % j)) (setN 4))
abbrev lw4 : Gs := (asgS (b2 (b2 (b2 (gD 4) (fun _ => some (.int 1)) oAdd) (b2 (b2 (gD 1) (fun _ => some (.int 2)) oIx) (b2 (gD 2) (fun _ => some (.int 1)) (oI fun i j => i - j)) (oIC cMod fun i j => i % j)) oAdd) (gD 2) (oIC cMod fun i j => i % j)) (setN 5))
abbrev lw5 : Gs := (ifS (orT (notT (tb (c1 (consA (gD 2) (consA (gD 3) (consA (gD 4) (consA (gD 5) nilA)))) F_law_two_right))) (notT (tb (c1 (consA (gD 2) (consA (gD 3) (consA (gD 5) (consA (gD 4) nilA)))) F_law_two_right)))) (retS (fun _ => some (.bool false))) nextS)
abbrev lw6 : Gs := (asgS (b2 (lsV (lstV (consA (fun _ => some (.str "size")) (consA (fun _ => some (.str "rank")) (consA (fun _ => some (.str "told")) (consA (fun _ => some (.str "names")) nilA)))))) (b2 (b2 (gD 1) (fun _ => some (.int 3)) oIx) (fun _ => some (.int 4)) (oIC cMod fun i j => i % j)) oIx) (setN 6))
abbrev lw7 : Gs := (asgS (lsV (lcV (itT (slV (gD 3) (someP (b2 (b2 (gD 1) (fun _ => some (.int 4)) oIx) (fun _ => some (.int 3)) (oIC cMod fun i j => i % j))) noP oSlT)) (tupG 2 (consG (setN 16) (consG (setN 17) nilG))) yesT (tupV (consA (fun _ => some (.str "join")) (consA (gD 16) (consA (gD 17) nilA)))) [16, 17])) (setN 7))
abbrev lw8 : Gs := (asgS (b2 (b2 (c1 (consA (c1 (consA (gD 2) (consA (gD 6) (consA (fun _ => some (.str "none")) nilA))) F_law_new) (consA (gD 7) nilA)) F_law_run) (fun _ => some (.int 0)) oIx) (fun _ => some (.int 2)) oIx) (setN 8))
abbrev lw9 : Gs := (forS (itL (lsV (lstV (consA (gD 8) (consA (c1 (consA (lsV (slV (gD 1) (someP (fun _ => some (.int 5))) noP oSlL)) (consA (gD 2) nilA)) F_law_forest) nilA))))) (setN 9) (ifS (notT (tb (c1 (consA (gD 6) (consA (gD 9) nilA)) F_law_shape_right))) (retS (fun _ => some (.bool false))) nextS))
abbrev lw10 : Gs := (asgS (c1 (consA (gD 2) (consA (fun _ => some (.int 3)) nilA)) oMin2) (setN 10))
abbrev lw11 : Gs := (asgS (lsV (slV (lsV (lstV (consA (fun _ => some (.int 11)) (consA (fun _ => some (.int 14)) (consA (fun _ => some (.int 17)) nilA))))) noP (someP (b2 (b2 (gD 1) (fun _ => some (.int 20)) oIx) (fun _ => some (.int 4)) (oIC cMod fun i j => i % j))) oSlL)) (setN 11))
abbrev lw12 : Gs := (asgS (c1 (consA (lsV (lcV (itL (gD 11)) (setN 18) yesT (tupV (consA (b2 (b2 (gD 1) (gD 18) oIx) (gD 10) (oIC cMod fun i j => i % j)) (consA (b2 (b2 (gD 1) (b2 (gD 18) (fun _ => some (.int 1)) oAdd) oIx) (gD 10) (oIC cMod fun i j => i % j)) (consA (b2 (b2 (b2 (gD 1) (b2 (gD 18) (fun _ => some (.int 2)) oAdd) oIx) (fun _ => some (.int 7)) (oIC cMod fun i j => i % j)) (fun _ => some (.int 3)) (oI fun i j => i - j)) nilA)))) [18])) nilA) oTupOf) (setN 12))
abbrev lw13 : Gs := (ifS (notT (tb (c1 (consA (gD 10) (consA (b2 (fun _ => some (.int 2)) (b2 (b2 (gD 1) (fun _ => some (.int 21)) oIx) (fun _ => some (.int 2)) (oIC cMod fun i j => i % j)) oAdd) (consA (gD 12) nilA))) F_law_tellings_right))) (retS (fun _ => some (.bool false))) nextS)
abbrev lw14 : Gs := (parS 16 17 (c1 (consA (gD 2) (consA (slV (gD 3) noP (someP (fun _ => some (.int 2))) oSlT) nilA)) F_law_lots_by) (c1 (consA (gD 2) (consA (slV (gD 3) (someP (fun _ => some (.int 2))) noP oSlT) nilA)) F_law_lots_by))
abbrev lw15 : Gs := (ifS (notT (tb (c1 (consA (gD 2) (consA (c1 (consA (gD 16) nilA) oTupOf) (consA (c1 (consA (gD 17) nilA) oTupOf) (consA (gD 4) (consA (gD 5) nilA))))) F_law_lots_right))) (retS (fun _ => some (.bool false))) nextS)
abbrev lw16 : Gs := (asgS (b2 (fun _ => some (.int 1)) (b2 (b2 (gD 1) (fun _ => some (.int 22)) oIx) (fun _ => some (.int 3)) (oIC cMod fun i j => i % j)) oAdd) (setN 13))
abbrev lw17 : Gs := (asgS (b2 (fun _ => some (.int 1)) (b2 (b2 (b2 (gD 1) (fun _ => some (.int 22)) oIx) (fun _ => some (.int 3)) (oIC cDiv fun i j => i / j)) (fun _ => some (.int 2)) (oIC cMod fun i j => i % j)) oAdd) (setN 14))
abbrev lw18 : Gs := (asgS (c1 (consA (lsV (lcV (itL (c1 (consA (c1 (consA (gD 0) (consA (fun _ => some (.int 41)) nilA)) F_law_cell) (consA (b2 (b2 (gD 1) (fun _ => some (.int 23)) oIx) (fun _ => some (.int 8)) (oIC cMod fun i j => i % j)) nilA)) F_law_numbers)) (setN 19) yesT (b2 (gD 19) (b2 (gD 13) (gD 14) oMul) (oIC cMod fun i j => i % j)) [19])) nilA) oTupOf) (setN 15))
abbrev lw19 : Gs := (retS (c1 (consA (gD 13) (consA (gD 14) (consA (gD 15) nilA))) F_law_board_right))
abbrev XI (l : List Int) : Option En := some (.dat (lI l))
abbrev XN (i : Int) : Option En := some (.dat (.int i))
abbrev LN (ns : List Int) (x1 x2 x3 x4 x5 x6 x7 x8 x9 x10 x11 x12 x13 x14 x15 x16 x17 : Option En) : Nv := [some (.dat (lI ns)), x1, x2, x3, x4, x5, x6, x7, x8, x9, x10, x11, x12, x13, x14, x15, x16, x17, none, none]
theorem cut_to (ds : List D) (k : Nat) : cutD ds none (some (k : Int)) = ds.take k := by
  unfold cutD
  have e0 : HT.sIx ds.length 0 none = 0 := rfl
  have e : HT.sIx ds.length ds.length (some (k : Int)) = min k ds.length := by
    show (if (k : Int) < 0 then ((k : Int) + (ds.length : Int)).toNat else min (k : Int).toNat ds.length) = _
    rw [if_neg (by omega)]
    rfl
  rw [e0, e, List.drop_zero, Nat.sub_zero]
  rcases Nat.le_total ds.length k with h | h
  · rw [Nat.min_eq_right h, List.take_length, List.take_of_length_le h]
  · rw [Nat.min_eq_left h]
theorem cut_from (ds : List D) (k : Nat) : cutD ds (some (k : Int)) none = ds.drop k := Option.some.inj (cut_drop ds k)
section
variable {ns l : List Int} (hl : l.length = 24)
include hl
theorem at1 {ρ : Nv} (k : Nat) (hk : k < 24) (h1 : gD 1 ρ = some (lI l)) : b2 (gD 1) (fun _ => some (.int (k : Int))) oIx ρ = some (.int (atL l k)) := (b2_eq h1 rfl).trans (at_ok l k (by omega))
theorem md1 {ρ : Nv} (k : Nat) (hk : k < 24) (c : Int) (hc : 0 < c) (h1 : gD 1 ρ = some (lI l)) : b2 (b2 (gD 1) (fun _ => some (.int (k : Int))) oIx) (fun _ => some (.int c)) (oIC cMod fun i j => i % j) ρ = some (.int (atL l k % c)) := (b2_eq (at1 hl k hk h1) rfl).trans (md_eq hc)
end
theorem lw0_ok (ns : List Int) (hs : ns.length ≤ 63) : ∃ l : List Int, l.length = 24 ∧ lw0 (LN ns none none none none none none none none none none none none none none none none none) = some (.nx (LN ns (XI l) none none none none none none none none none none none none none none none none)) := by
  obtain ⟨c, ec⟩ := cell_ok ns 40 hs (by decide)
  obtain ⟨l, hl, _, en⟩ := numbers_ok c 24 (by decide)
  exact ⟨l, hl, asg_eq (i := 1) (ρ := LN ns none none none none none none none none none none none none none none none none none) (d := lI l) ((c1_eq (consA_eq ((c1_eq (consA_eq rfl (consA_eq rfl rfl))).trans ec) (consA_eq rfl rfl))).trans en)⟩
theorem lw1_ok (ns l : List Int) (hl : l.length = 24) : ∃ m : Nat, (m = 2 ∨ m = 3 ∨ m = 4) ∧ lw1 (LN ns (XI l) none none none none none none none none none none none none none none none none) = some (.nx (LN ns (XI l) (XN m) none none none none none none none none none none none none none none none)) := by
  have r1 := Int.emod_nonneg (atL l 0) (b := 3) (by decide)
  have r2 := Int.emod_lt_of_pos (atL l 0) (b := 3) (by decide)
  refine ⟨2 + (atL l 0 % 3).toNat, by omega, asg_eq (i := 2) (ρ := LN ns (XI l) none none none none none none none none none none none none none none none none) (d := .int ((2 + (atL l 0 % 3).toNat : Nat) : Int)) ((b2_eq rfl (md1 hl 0 (by decide) 3 (by decide) rfl)).trans ?_)⟩
  have e : ((2 + (atL l 0 % 3).toNat : Nat) : Int) = 2 + atL l 0 % 3 := by omega
  rw [e]
  rfl
theorem lw2_ok (ns l : List Int) (hs : ns.length ≤ 63) (m : Nat) (hm : m = 2 ∨ m = 3 ∨ m = 4) : ∃ r : List (Int × Int), r.length ≤ 4 ∧ (r.all fun p => inR m p.1 && inR m p.2) = true ∧ lw2 (LN ns (XI l) (XN m) none none none none none none none none none none none none none none none) = some (.nx (LN ns (XI l) (XN m) (some (.dat (tP r))) none none none none none none none none none none none none none none)) := by
  obtain ⟨r, h1, h2, e⟩ := joins_ok ns m hs (by omega)
  exact ⟨r, h1, h2, asg_eq (i := 3) (ρ := LN ns (XI l) (XN m) none none none none none none none none none none none none none none none) (d := tP r) ((c1_eq (consA_eq rfl (consA_eq rfl (consA_eq rfl (consA_eq rfl rfl))))).trans e)⟩
section
variable (ns l : List Int) (hl : l.length = 24) (m : Nat) (hm : m = 2 ∨ m = 3 ∨ m = 4) (r : List (Int × Int)) (hr : r.length ≤ 4) (ha : (r.all fun p => inR m p.1 && inR m p.2) = true)
include hl hm
theorem lw34_ok : ∃ x y : Int, inR m x = true ∧ inR m y = true ∧ x ≠ y ∧ lw3 (LN ns (XI l) (XN m) (some (.dat (tP r))) none none none none none none none none none none none none none none) = some (.nx (LN ns (XI l) (XN m) (some (.dat (tP r))) (XN x) none none none none none none none none none none none none none)) ∧ lw4 (LN ns (XI l) (XN m) (some (.dat (tP r))) (XN x) none none none none none none none none none none none none none) = some (.nx (LN ns (XI l) (XN m) (some (.dat (tP r))) (XN x) (XN y) none none none none none none none none none none none none)) := by
  refine ⟨atL l 1 % m, (atL l 1 % m + 1 + atL l 2 % ((m : Int) - 1)) % m, emod_in _ _ (by omega), emod_in _ _ (by omega), ?_, ?_, ?_⟩
  · have r1 := Int.emod_nonneg (atL l 2) (b := (m : Int) - 1) (by omega)
    have r2 := Int.emod_lt_of_pos (atL l 2) (b := (m : Int) - 1) (by omega)
    rcases hm with rfl | rfl | rfl
    · have r1 : 0 ≤ atL l 2 % 1 := r1
      have r2 : atL l 2 % 1 < 1 := r2
      show atL l 1 % 2 ≠ (atL l 1 % 2 + 1 + atL l 2 % 1) % 2
      omega
    · have r1 : 0 ≤ atL l 2 % 2 := r1
      have r2 : atL l 2 % 2 < 2 := r2
      show atL l 1 % 3 ≠ (atL l 1 % 3 + 1 + atL l 2 % 2) % 3
      omega
    · have r1 : 0 ≤ atL l 2 % 3 := r1
      have r2 : atL l 2 % 3 < 3 := r2
      show atL l 1 % 4 ≠ (atL l 1 % 4 + 1 + atL l 2 % 3) % 4
      omega
  · exact asg_eq (i := 4) (ρ := LN ns (XI l) (XN m) (some (.dat (tP r))) none none none none none none none none none none none none none none) (d := .int (atL l 1 % m)) ((b2_eq (at1 hl 1 (by decide) rfl) rfl).trans (md_eq (by omega)))
  · exact asg_eq (i := 5) (ρ := LN ns (XI l) (XN m) (some (.dat (tP r))) (XN (atL l 1 % m)) none none none none none none none none none none none none none) (d := .int ((atL l 1 % m + 1 + atL l 2 % ((m : Int) - 1)) % m)) ((b2_eq ((b2_eq (x := .int (atL l 1 % m + 1)) (y := .int (atL l 2 % ((m : Int) - 1))) rfl ((b2_eq (at1 hl 2 (by decide) rfl) (y := .int ((m : Int) - 1)) rfl).trans (md_eq (by omega)))).trans rfl) rfl).trans (md_eq (by omega)))
omit hl
include hr ha
theorem lw5_ok {x y : Int} (hx : inR m x = true) (hy : inR m y = true) (hxy : x ≠ y) : lw5 (LN ns (XI l) (XN m) (some (.dat (tP r))) (XN x) (XN y) none none none none none none none none none none none none) = some (.nx (LN ns (XI l) (XN m) (some (.dat (tP r))) (XN x) (XN y) none none none none none none none none none none none none)) := by
  have a : Rw m r x y := ⟨by omega, by omega, by omega, ha, hx, hy⟩
  have b : Rw m r y x := ⟨by omega, by omega, by omega, ha, hy, hx⟩
  exact (ifS_f (orT_eq (notT_f (tb_eq ((c1_eq (consA_eq rfl (consA_eq rfl (consA_eq rfl (consA_eq rfl rfl))))).trans (two_right hm hr a hxy)))) fun _ => notT_f (tb_eq ((c1_eq (consA_eq rfl (consA_eq rfl (consA_eq rfl (consA_eq rfl rfl))))).trans (two_right hm hr b (fun z => hxy z.symm)))))).trans rfl
omit hm hr ha
include hl
theorem lw6_ok (x3 x4 x5 : Option En) : ∃ w ∈ jw, lw6 (LN ns (XI l) (XN m) x3 x4 x5 none none none none none none none none none none none none) = some (.nx (LN ns (XI l) (XN m) x3 x4 x5 (some (.dat (.str w))) none none none none none none none none none none none)) := by
  have r1 := Int.emod_nonneg (atL l 3) (b := 4) (by decide)
  have r2 := Int.emod_lt_of_pos (atL l 3) (b := 4) (by decide)
  have e := md1 (ρ := LN ns (XI l) (XN m) x3 x4 x5 none none none none none none none none none none none none) hl 3 (by decide) 4 (by decide) rfl
  have c : atL l 3 % 4 = 0 ∨ atL l 3 % 4 = 1 ∨ atL l 3 % 4 = 2 ∨ atL l 3 % 4 = 3 := by omega
  rcases c with c | c | c | c
  · rw [c] at e; exact ⟨"size", by simp [jw], asg_eq (i := 6) (ρ := LN ns (XI l) (XN m) x3 x4 x5 none none none none none none none none none none none none) ((b2_eq rfl e).trans rfl)⟩
  · rw [c] at e; exact ⟨"rank", by simp [jw], asg_eq (i := 6) (ρ := LN ns (XI l) (XN m) x3 x4 x5 none none none none none none none none none none none none) ((b2_eq rfl e).trans rfl)⟩
  · rw [c] at e; exact ⟨"told", by simp [jw], asg_eq (i := 6) (ρ := LN ns (XI l) (XN m) x3 x4 x5 none none none none none none none none none none none none) ((b2_eq rfl e).trans rfl)⟩
  · rw [c] at e; exact ⟨"names", by simp [jw], asg_eq (i := 6) (ρ := LN ns (XI l) (XN m) x3 x4 x5 none none none none none none none none none none none none) ((b2_eq rfl e).trans rfl)⟩
include hm hr ha
theorem lw78_ok (x4 x5 : Option En) {w : Str} (hw : w ∈ jw) : ∃ (d7 : D) (u : List Int), u.length = m ∧ forB u = true ∧ lw7 (LN ns (XI l) (XN m) (some (.dat (tP r))) x4 x5 (some (.dat (.str w))) none none none none none none none none none none none) = some (.nx (LN ns (XI l) (XN m) (some (.dat (tP r))) x4 x5 (some (.dat (.str w))) (some (.dat d7)) none none none none none none none none none none)) ∧ lw8 (LN ns (XI l) (XN m) (some (.dat (tP r))) x4 x5 (some (.dat (.str w))) (some (.dat d7)) none none none none none none none none none none) = some (.nx (LN ns (XI l) (XN m) (some (.dat (tP r))) x4 x5 (some (.dat (.str w))) (some (.dat d7)) (some (.dat (tI u))) none none none none none none none none none)) := by
  have r1 := Int.emod_nonneg (atL l 4) (b := 3) (by decide)
  obtain ⟨u, ms, a, t, h1, h2, e⟩ := run_ok hm hw (r.drop (atL l 4 % 3).toNat) (by rw [List.length_drop]; omega) (List.all_eq_true.mpr fun p hp => List.all_eq_true.mp ha p (List.mem_of_mem_drop hp))
  refine ⟨.list ((r.drop (atL l 4 % 3).toNat).map jnD), u, h1, h2, ?_, ?_⟩
  · have e1 : someP (b2 (b2 (gD 1) (fun _ => some (.int 4)) oIx) (fun _ => some (.int 3)) (oIC cMod fun i j => i % j)) (LN ns (XI l) (XN m) (some (.dat (tP r))) x4 x5 (some (.dat (.str w))) none none none none none none none none none none none) = some (some (((atL l 4 % 3).toNat : Nat) : Int)) := by
      have z : (b2 (b2 (gD 1) (fun _ => some (.int 4)) oIx) (fun _ => some (.int 3)) (oIC cMod fun i j => i % j)) (LN ns (XI l) (XN m) (some (.dat (tP r))) x4 x5 (some (.dat (.str w))) none none none none none none none none none none none) = some (.int (atL l 4 % 3)) := md1 hl 4 (by decide) 3 (by decide) rfl
      unfold someP
      rw [z, Int.toNat_of_nonneg r1]
      rfl
    have e2 : slV (gD 3) (someP (b2 (b2 (gD 1) (fun _ => some (.int 4)) oIx) (fun _ => some (.int 3)) (oIC cMod fun i j => i % j))) noP oSlT (LN ns (XI l) (XN m) (some (.dat (tP r))) x4 x5 (some (.dat (.str w))) none none none none none none none none none none none) = some (.tuple ((r.drop (atL l 4 % 3).toNat).map eP)) := by
      unfold slV
      show (some (tP r)).bind _ = _
      rw [Option.bind_some, e1, Option.bind_some]
      show some (PyData.tuple (cutD (r.map eP) (some (((atL l 4 % 3).toNat : Nat) : Int)) none)) = _
      rw [cut_from, ← List.map_drop]
    refine asg_eq (i := 7) (ρ := LN ns (XI l) (XN m) (some (.dat (tP r))) x4 x5 (some (.dat (.str w))) none none none none none none none none none none none) (ls_eq ?_)
    exact lcV_map (enc := eP) jnD (r.drop (atL l 4 % 3).toNat) (itT_eq e2 (by rw [List.length_map, List.length_drop]; omega)) (by rw [List.length_drop]; omega) fun p _ => ⟨_, rfl, rfl⟩
  · refine asg_eq (i := 8) (ρ := LN ns (XI l) (XN m) (some (.dat (tP r))) x4 x5 (some (.dat (.str w))) (some (.dat (.list ((r.drop (atL l 4 % 3).toNat).map jnD)))) none none none none none none none none none none) (d := tI u) ?_
    exact (b2_eq ((b2_eq ((c1_eq (consA_eq ((c1_eq (consA_eq rfl (consA_eq rfl (consA_eq rfl rfl)))).trans (new_ok hm hw).1) (consA_eq rfl rfl))).trans e) rfl).trans rfl) rfl).trans rfl
omit hr ha
theorem lw9_ok (x3 x4 x5 x7 : Option En) {w : Str} (hw : w ∈ jw) {u : List Int} (hu : u.length = m) (fu : forB u = true) : ∃ x9 : Option En, lw9 (LN ns (XI l) (XN m) x3 x4 x5 (some (.dat (.str w))) x7 (some (.dat (tI u))) none none none none none none none none none) = some (.nx (LN ns (XI l) (XN m) x3 x4 x5 (some (.dat (.str w))) x7 (some (.dat (tI u))) x9 none none none none none none none none)) := by
  obtain ⟨v, hv, fv, e⟩ := forest_ok (l.drop 5) m hm (by rw [List.length_drop]; omega)
  have sh : ∀ (x9 : Option En) {z : List Int}, z.length = m → forB z = true → (ifS (notT (tb (c1 (consA (gD 6) (consA (gD 9) nilA)) F_law_shape_right))) (retS (fun _ => some (.bool false))) nextS) (LN ns (XI l) (XN m) x3 x4 x5 (some (.dat (.str w))) x7 (some (.dat (tI u))) (some (.dat (tI z))) none none none none none none none none) = some (.nx (LN ns (XI l) (XN m) x3 x4 x5 (some (.dat (.str w))) x7 (some (.dat (tI u))) (some (.dat (tI z))) none none none none none none none none)) := fun x9 z hz fz =>
    (ifS_f (notT_f (tb_eq ((c1_eq (consA_eq rfl (consA_eq rfl rfl))).trans (shape_right (by rw [hz]; exact hm) fz hw))))).trans rfl
  have e1 : (lsV (slV (gD 1) (someP (fun _ => some (.int 5))) noP oSlL)) (LN ns (XI l) (XN m) x3 x4 x5 (some (.dat (.str w))) x7 (some (.dat (tI u))) none none none none none none none none none) = some (lI (l.drop 5)) := by
    refine ls_eq ?_
    show some (cutD (eI l) (some ((5 : Nat) : Int)) none) = _
    rw [cut_from]
    unfold eI
    rw [← List.map_drop]
  have e2 : itL (lsV (lstV (consA (gD 8) (consA (c1 (consA (lsV (slV (gD 1) (someP (fun _ => some (.int 5))) noP oSlL)) (consA (gD 2) nilA)) F_law_forest) nilA)))) (LN ns (XI l) (XN m) x3 x4 x5 (some (.dat (.str w))) x7 (some (.dat (tI u))) none none none none none none none none none) = some [tI u, tI v] := by
    refine itL_eq (ls_eq ?_) (by simp)
    unfold lstV
    rw [consA_eq (x := tI u) rfl (consA_eq ((c1_eq (consA_eq e1 (consA_eq rfl rfl))).trans e) rfl)]
    rfl
  refine ⟨some (.dat (tI v)), (forS_eq e2).trans ((foS_cons (a := setN 9) rfl (sh none hu fu)).trans ((foS_cons (a := setN 9) rfl (sh none hv fv)).trans rfl))⟩
end
end Qd
end
section
set_option Elab.async false
set_option linter.all false
set_option autoImplicit false
set_option maxRecDepth 100000
set_option maxHeartbeats 1000000
/-! P30: the law answers True. -/
namespace Qd
open PySem
open PySem.Spec
/-- the tellings, by their places -/
def tlOf (l : List Int) (k : Int) (pl : List Int) : List Tl := pl.map fun p => (atL l p.toNat % k, atL l (p + 1).toNat % k, atL l (p + 2).toNat % 7 - 3)
abbrev pl3 : List Int := [11, 14, 17]
section
variable (ns l : List Int) (hl : l.length = 24) (m : Nat) (hm : m = 2 ∨ m = 3 ∨ m = 4)
include hm
theorem lw10_ok (x1 x3 x4 x5 x6 x7 x8 x9 : Option En) : ∃ k : Nat, (k = 2 ∨ k = 3) ∧ lw10 (LN ns x1 (XN m) x3 x4 x5 x6 x7 x8 x9 none none none none none none none none) = some (.nx (LN ns x1 (XN m) x3 x4 x5 x6 x7 x8 x9 (XN k) none none none none none none none)) := by
  have e : c1 (consA (gD 2) (consA (fun _ => some (.int 3)) nilA)) oMin2 (LN ns x1 (XN m) x3 x4 x5 x6 x7 x8 x9 none none none none none none none none) = some (.int (if (3 : Int) < (m : Int) then 3 else (m : Int))) := (c1_eq (consA_eq rfl (consA_eq rfl rfl))).trans rfl
  rcases hm with rfl | rfl | rfl
  · exact ⟨2, .inl rfl, asg_eq (i := 10) (ρ := LN ns x1 (XN 2) x3 x4 x5 x6 x7 x8 x9 none none none none none none none none) (d := .int 2) e⟩
  · exact ⟨3, .inr rfl, asg_eq (i := 10) (ρ := LN ns x1 (XN 3) x3 x4 x5 x6 x7 x8 x9 none none none none none none none none) (d := .int 3) e⟩
  · exact ⟨3, .inr rfl, asg_eq (i := 10) (ρ := LN ns x1 (XN 4) x3 x4 x5 x6 x7 x8 x9 none none none none none none none none) (d := .int 3) e⟩
omit hm
include hl
theorem lw11_ok (x2 x3 x4 x5 x6 x7 x8 x9 x10 : Option En) : ∃ k : Nat, lw11 (LN ns (XI l) x2 x3 x4 x5 x6 x7 x8 x9 x10 none none none none none none none) = some (.nx (LN ns (XI l) x2 x3 x4 x5 x6 x7 x8 x9 x10 (XI (pl3.take k)) none none none none none none)) := by
  have r1 := Int.emod_nonneg (atL l 20) (b := 4) (by decide)
  have e := md1 (ρ := LN ns (XI l) x2 x3 x4 x5 x6 x7 x8 x9 x10 none none none none none none none) hl 20 (by decide) 4 (by decide) rfl
  refine ⟨(atL l 20 % 4).toNat, asg_eq (i := 11) (ρ := LN ns (XI l) x2 x3 x4 x5 x6 x7 x8 x9 x10 none none none none none none none) (d := lI (pl3.take (atL l 20 % 4).toNat)) (ls_eq ?_)⟩
  have e1 : someP (b2 (b2 (gD 1) (fun _ => some (.int 20)) oIx) (fun _ => some (.int 4)) (oIC cMod fun i j => i % j)) (LN ns (XI l) x2 x3 x4 x5 x6 x7 x8 x9 x10 none none none none none none none) = some (some (((atL l 20 % 4).toNat : Nat) : Int)) := by
    have e : (b2 (b2 (gD 1) (fun _ => some (.int 20)) oIx) (fun _ => some (.int 4)) (oIC cMod fun i j => i % j)) (LN ns (XI l) x2 x3 x4 x5 x6 x7 x8 x9 x10 none none none none none none none) = some (.int (atL l 20 % 4)) := e
    unfold someP
    rw [e, Int.toNat_of_nonneg r1]
    rfl
  unfold slV
  show (some (lI pl3)).bind _ = _
  rw [Option.bind_some]
  show (some none).bind _ = _
  rw [Option.bind_some, e1, Option.bind_some]
  show some (cutD (eI pl3) none (some (((atL l 20 % 4).toNat : Nat) : Int))) = _
  rw [cut_to]
  unfold eI
  rw [← List.map_take]
theorem lw12_ok (x2 x3 x4 x5 x6 x7 x8 x9 : Option En) (k j : Nat) (hk : k = 2 ∨ k = 3) : lw12 (LN ns (XI l) x2 x3 x4 x5 x6 x7 x8 x9 (XN k) (XI (pl3.take j)) none none none none none none) = some (.nx (LN ns (XI l) x2 x3 x4 x5 x6 x7 x8 x9 (XN k) (XI (pl3.take j)) (some (.dat (tT (tlOf l k (pl3.take j))))) none none none none none)) := by
  have hj : (pl3.take j).length ≤ 3 := by rw [List.length_take]; exact Nat.min_le_right ..
  refine asg_eq (i := 12) (ρ := LN ns (XI l) x2 x3 x4 x5 x6 x7 x8 x9 (XN k) (XI (pl3.take j)) none none none none none none) (d := tT (tlOf l k (pl3.take j))) ?_
  have e : lcV (itL (gD 11)) (setN 18) yesT (tupV (consA (b2 (b2 (gD 1) (gD 18) oIx) (gD 10) (oIC cMod fun i j => i % j)) (consA (b2 (b2 (gD 1) (b2 (gD 18) (fun _ => some (.int 1)) oAdd) oIx) (gD 10) (oIC cMod fun i j => i % j)) (consA (b2 (b2 (b2 (gD 1) (b2 (gD 18) (fun _ => some (.int 2)) oAdd) oIx) (fun _ => some (.int 7)) (oIC cMod fun i j => i % j)) (fun _ => some (.int 3)) (oI fun i j => i - j)) nilA)))) [18] (LN ns (XI l) x2 x3 x4 x5 x6 x7 x8 x9 (XN k) (XI (pl3.take j)) none none none none none none) = some ((tlOf l k (pl3.take j)).map eT) := by
    unfold tlOf
    rw [List.map_map]
    refine lcV_map (enc := PyData.int) (fun p => eT (atL l p.toNat % k, atL l (p + 1).toNat % k, atL l (p + 2).toNat % 7 - 3)) (pl3.take j) (itL_eq rfl (by rw [List.length_map]; omega)) (by omega) fun p hp => ⟨_, rfl, ?_⟩
    have hp := List.mem_of_mem_take hp
    simp only [pl3, List.mem_cons, List.not_mem_nil, or_false] at hp
    unfold tupV
    rw [consA_eq ((b2_eq ((b2_eq rfl rfl).trans (at_it l (i := p) (by omega) (by omega))) rfl).trans (md_eq (by omega)))
      (consA_eq ((b2_eq ((b2_eq rfl ((b2_eq rfl rfl).trans rfl)).trans (at_it l (i := p + 1) (by omega) (by omega))) rfl).trans (md_eq (by omega)))
      (consA_eq ((b2_eq ((b2_eq ((b2_eq rfl ((b2_eq rfl rfl).trans rfl)).trans (at_it l (i := p + 2) (by omega) (by omega))) rfl).trans (md_eq (by decide))) rfl).trans rfl) rfl))]
    rfl
  rw [c1_eq (consA_eq (ls_eq e) rfl)]
  rfl
theorem lw13_ok (x2 x3 x4 x5 x6 x7 x8 x9 x11 : Option En) (k j : Nat) (hk : k = 2 ∨ k = 3) : lw13 (LN ns (XI l) x2 x3 x4 x5 x6 x7 x8 x9 (XN k) x11 (some (.dat (tT (tlOf l k (pl3.take j))))) none none none none none) = some (.nx (LN ns (XI l) x2 x3 x4 x5 x6 x7 x8 x9 (XN k) x11 (some (.dat (tT (tlOf l k (pl3.take j))))) none none none none none)) := by
  have r1 := Int.emod_nonneg (atL l 21) (b := 2) (by decide)
  have r2 := Int.emod_lt_of_pos (atL l 21) (b := 2) (by decide)
  have hr : 2 + (atL l 21 % 2).toNat = 2 ∨ 2 + (atL l 21 % 2).toNat = 3 := by omega
  have er : ((2 + (atL l 21 % 2).toNat : Nat) : Int) = 2 + atL l 21 % 2 := by omega
  have te : Te (k : Int) ((2 + (atL l 21 % 2).toNat : Nat) : Int) (tlOf l k (pl3.take j)) := by
    refine ⟨by omega, by omega, by omega, by omega, ?_, List.all_eq_true.mpr fun t ht => ?_⟩
    · unfold tlOf
      rw [List.length_map, List.length_take]
      exact Nat.min_le_right ..
    · obtain ⟨p, _, rfl⟩ := List.mem_map.mp ht
      show (inR k (atL l p.toNat % k) && inR k (atL l (p + 1).toNat % k)) = true
      rw [emod_in _ _ (by omega), emod_in _ _ (by omega)]
      rfl
  have e1 : (b2 (fun _ => some (.int 2)) (b2 (b2 (gD 1) (fun _ => some (.int 21)) oIx) (fun _ => some (.int 2)) (oIC cMod fun i j => i % j)) oAdd) (LN ns (XI l) x2 x3 x4 x5 x6 x7 x8 x9 (XN k) x11 (some (.dat (tT (tlOf l k (pl3.take j))))) none none none none none) = some (.int ((2 + (atL l 21 % 2).toNat : Nat) : Int)) := by
    rw [er]
    exact (b2_eq rfl (md1 hl 21 (by decide) 2 (by decide) rfl)).trans rfl
  exact (ifS_f (notT_f (tb_eq ((c1_eq (consA_eq rfl (consA_eq e1 (consA_eq rfl rfl)))).trans (tellings_right hk hr te))))).trans rfl
omit hl
variable (r : List (Int × Int)) (hr : r.length ≤ 4) (ha : (r.all fun p => inR m p.1 && inR m p.2) = true)
include hm hr ha
theorem lw1415_ok (x1 x6 x7 x8 x9 x10 x11 x12 : Option En) {x y : Int} (hx : inR m x = true) (hy : inR m y = true) (hxy : x ≠ y) : ∃ x16 x17 : Option En, lw14 (LN ns x1 (XN m) (some (.dat (tP r))) (XN x) (XN y) x6 x7 x8 x9 x10 x11 x12 none none none none none) = some (.nx (LN ns x1 (XN m) (some (.dat (tP r))) (XN x) (XN y) x6 x7 x8 x9 x10 x11 x12 none none none x16 x17)) ∧ lw15 (LN ns x1 (XN m) (some (.dat (tP r))) (XN x) (XN y) x6 x7 x8 x9 x10 x11 x12 none none none x16 x17) = some (.nx (LN ns x1 (XN m) (some (.dat (tP r))) (XN x) (XN y) x6 x7 x8 x9 x10 x11 x12 none none none x16 x17)) := by
  obtain ⟨L1, e1, g1⟩ := lots_by hm (r := r.take 2) (by rw [List.length_take]; omega) (List.all_eq_true.mpr fun p hp => List.all_eq_true.mp ha p (List.mem_of_mem_take hp))
  obtain ⟨L2, e2, g2⟩ := lots_by hm (r := r.drop 2) (by rw [List.length_drop]; omega) (List.all_eq_true.mpr fun p hp => List.all_eq_true.mp ha p (List.mem_of_mem_drop hp))
  refine ⟨some (.dat (lTI L1)), some (.dat (lTI L2)), ?_, ?_⟩
  · have s1 : slV (gD 3) noP (someP (fun _ => some (.int 2))) oSlT (LN ns x1 (XN m) (some (.dat (tP r))) (XN x) (XN y) x6 x7 x8 x9 x10 x11 x12 none none none none none) = some (tP (r.take 2)) := by
      show some (PyData.tuple (cutD (r.map eP) none (some ((2 : Nat) : Int)))) = _
      rw [cut_to, ← List.map_take]
    have s2 : slV (gD 3) (someP (fun _ => some (.int 2))) noP oSlT (LN ns x1 (XN m) (some (.dat (tP r))) (XN x) (XN y) x6 x7 x8 x9 x10 x11 x12 none none none none none) = some (tP (r.drop 2)) := by
      show some (PyData.tuple (cutD (r.map eP) (some ((2 : Nat) : Int)) none)) = _
      rw [cut_from, ← List.map_drop]
    unfold lw14 parS
    rw [c1_eq (consA_eq rfl (consA_eq s1 rfl)), e1, Option.bind_some, c1_eq (consA_eq rfl (consA_eq s2 rfl)), e2, Option.bind_some]
    rfl
  · have tw : Tw (m : Int) L1 L2 x y := ⟨by omega, by omega, g1.l, g2.l, g1.ok, g2.ok, g1.s, g2.s, hx, hy⟩
    have cv : Cov m (L1 ++ L2) := ⟨fun a ha => by
      unfold besB
      rw [List.any_append]
      have z := g1.cov.refl a ha
      unfold besB at z
      rw [z]
      rfl, fun lot hlot t ht => by
      rcases List.mem_append.mp hlot with z | z
      · exact g1.cov.rng lot z t ht
      · exact g2.cov.rng lot z t ht⟩
    exact (ifS_f (notT_f (tb_eq ((c1_eq (consA_eq rfl (consA_eq ((c1_eq (consA_eq rfl rfl)).trans rfl) (consA_eq ((c1_eq (consA_eq rfl rfl)).trans rfl) (consA_eq rfl (consA_eq rfl rfl)))))).trans (lots_right hm tw cv hxy))))).trans rfl
omit hm hr ha
include hl
theorem lw1617_ok (x2 x3 x4 x5 x6 x7 x8 x9 x10 x11 x12 x16 x17 : Option En) : ∃ h w : Nat, (h, w) ∈ szs ∧ lw16 (LN ns (XI l) x2 x3 x4 x5 x6 x7 x8 x9 x10 x11 x12 none none none x16 x17) = some (.nx (LN ns (XI l) x2 x3 x4 x5 x6 x7 x8 x9 x10 x11 x12 (XN h) none none x16 x17)) ∧ lw17 (LN ns (XI l) x2 x3 x4 x5 x6 x7 x8 x9 x10 x11 x12 (XN h) none none x16 x17) = some (.nx (LN ns (XI l) x2 x3 x4 x5 x6 x7 x8 x9 x10 x11 x12 (XN h) (XN w) none x16 x17)) := by
  have r1 := Int.emod_nonneg (atL l 22) (b := 3) (by decide)
  have r2 := Int.emod_lt_of_pos (atL l 22) (b := 3) (by decide)
  have r3 := Int.emod_nonneg (atL l 22 / 3) (b := 2) (by decide)
  have r4 := Int.emod_lt_of_pos (atL l 22 / 3) (b := 2) (by decide)
  refine ⟨1 + (atL l 22 % 3).toNat, 1 + (atL l 22 / 3 % 2).toNat, ?_, ?_, ?_⟩
  · have a : (atL l 22 % 3).toNat = 0 ∨ (atL l 22 % 3).toNat = 1 ∨ (atL l 22 % 3).toNat = 2 := by omega
    have b : (atL l 22 / 3 % 2).toNat = 0 ∨ (atL l 22 / 3 % 2).toNat = 1 := by omega
    rcases a with a | a | a <;> rcases b with b | b <;> rw [a, b] <;> decide
  · refine asg_eq (i := 13) (ρ := LN ns (XI l) x2 x3 x4 x5 x6 x7 x8 x9 x10 x11 x12 none none none x16 x17) (d := .int ((1 + (atL l 22 % 3).toNat : Nat) : Int)) ?_
    have e : ((1 + (atL l 22 % 3).toNat : Nat) : Int) = 1 + atL l 22 % 3 := by omega
    rw [e]
    exact (b2_eq rfl (md1 hl 22 (by decide) 3 (by decide) rfl)).trans rfl
  · refine asg_eq (i := 14) (ρ := LN ns (XI l) x2 x3 x4 x5 x6 x7 x8 x9 x10 x11 x12 (XN ((1 + (atL l 22 % 3).toNat : Nat) : Int)) none none x16 x17) (d := .int ((1 + (atL l 22 / 3 % 2).toNat : Nat) : Int)) ?_
    have e : ((1 + (atL l 22 / 3 % 2).toNat : Nat) : Int) = 1 + atL l 22 / 3 % 2 := by omega
    rw [e]
    exact (b2_eq rfl ((b2_eq ((b2_eq (at1 hl 22 (by decide) rfl) rfl).trans (dv_eq (by decide))) rfl).trans (md_eq (by decide)))).trans rfl
theorem lw18_ok (hs : ns.length ≤ 63) (x2 x3 x4 x5 x6 x7 x8 x9 x10 x11 x12 x16 x17 : Option En) (h w : Nat) (hm' : (h, w) ∈ szs) : ∃ row : List Int, Bd h w row ∧ lw18 (LN ns (XI l) x2 x3 x4 x5 x6 x7 x8 x9 x10 x11 x12 (XN h) (XN w) none x16 x17) = some (.nx (LN ns (XI l) x2 x3 x4 x5 x6 x7 x8 x9 x10 x11 x12 (XN h) (XN w) (some (.dat (tI row))) x16 x17)) := by
  have r1 := Int.emod_nonneg (atL l 23) (b := 8) (by decide)
  have r2 := Int.emod_lt_of_pos (atL l 23) (b := 8) (by decide)
  obtain ⟨c, ec⟩ := cell_ok ns 41 hs (by decide)
  obtain ⟨zs, hz, _, en⟩ := numbers_ok c (atL l 23 % 8).toNat (by omega)
  rw [Int.toNat_of_nonneg r1] at en
  have hn : (0 : Int) < ((h * w : Nat) : Int) := by
    have z := sz_ok hm'
    have : 0 < h * w := Nat.mul_pos (by omega) (by omega)
    omega
  refine ⟨zs.map fun z => z % ((h * w : Nat) : Int), ⟨hm', List.all_eq_true.mpr fun i hi => ?_, by rw [List.length_map]; omega⟩, asg_eq (i := 15) (ρ := LN ns (XI l) x2 x3 x4 x5 x6 x7 x8 x9 x10 x11 x12 (XN h) (XN w) none x16 x17) (d := tI (zs.map fun z => z % ((h * w : Nat) : Int))) ?_⟩
  · obtain ⟨z, _, rfl⟩ := List.mem_map.mp hi
    exact emod_in _ _ hn
  · have e23 : (b2 (b2 (gD 1) (fun _ => some (.int 23)) oIx) (fun _ => some (.int 8)) (oIC cMod fun i j => i % j)) (LN ns (XI l) x2 x3 x4 x5 x6 x7 x8 x9 x10 x11 x12 (XN h) (XN w) none x16 x17) = some (.int (atL l 23 % 8)) := md1 hl 23 (by decide) 8 (by decide) rfl
    have e1 : itL (c1 (consA (c1 (consA (gD 0) (consA (fun _ => some (.int 41)) nilA)) F_law_cell) (consA (b2 (b2 (gD 1) (fun _ => some (.int 23)) oIx) (fun _ => some (.int 8)) (oIC cMod fun i j => i % j)) nilA)) F_law_numbers) (LN ns (XI l) x2 x3 x4 x5 x6 x7 x8 x9 x10 x11 x12 (XN h) (XN w) none x16 x17) = some (zs.map PyData.int) :=
      itL_eq ((c1_eq (consA_eq ((c1_eq (consA_eq rfl (consA_eq rfl rfl))).trans ec) (consA_eq e23 rfl))).trans en) (by rw [List.length_map]; omega)
    have e2 : lcV (itL (c1 (consA (c1 (consA (gD 0) (consA (fun _ => some (.int 41)) nilA)) F_law_cell) (consA (b2 (b2 (gD 1) (fun _ => some (.int 23)) oIx) (fun _ => some (.int 8)) (oIC cMod fun i j => i % j)) nilA)) F_law_numbers)) (setN 19) yesT (b2 (gD 19) (b2 (gD 13) (gD 14) oMul) (oIC cMod fun i j => i % j)) [19] (LN ns (XI l) x2 x3 x4 x5 x6 x7 x8 x9 x10 x11 x12 (XN h) (XN w) none x16 x17) = some (zs.map fun z => .int (z % ((h * w : Nat) : Int))) :=
      lcV_map (enc := PyData.int) (fun z => .int (z % ((h * w : Nat) : Int))) zs e1 (by omega) fun z _ => ⟨_, rfl, (b2_eq rfl ((b2_eq rfl rfl).trans (sz_mul hm'))).trans (md_eq hn)⟩
    rw [c1_eq (consA_eq (ls_eq e2) rfl)]
    show some (PyData.tuple (zs.map fun z => .int (z % ((h * w : Nat) : Int)))) = some (PyData.tuple ((zs.map fun z => z % ((h * w : Nat) : Int)).map PyData.int))
    rw [List.map_map]
    rfl
end
theorem law_true (ns : List Int) (hs : ns.length ≤ 63) : F_law [.list (ns.map .int)] = some (.bool true) := by
  obtain ⟨l, hl, e0⟩ := lw0_ok ns hs
  obtain ⟨m, hm, e1⟩ := lw1_ok ns l hl
  obtain ⟨r, hr, ha, e2⟩ := lw2_ok ns l hs m hm
  obtain ⟨x, y, hx, hy, hxy, e3, e4⟩ := lw34_ok ns l hl m hm r
  have e5 := lw5_ok ns l m hm r hr ha hx hy hxy
  obtain ⟨w, hw, e6⟩ := lw6_ok ns l hl m (some (.dat (tP r))) (XN x) (XN y)
  obtain ⟨d7, u, hu, fu, e7, e8⟩ := lw78_ok ns l hl m hm r hr ha (XN x) (XN y) hw
  obtain ⟨x9, e9⟩ := lw9_ok ns l hl m hm (some (.dat (tP r))) (XN x) (XN y) (some (.dat d7)) hw hu fu
  obtain ⟨k, hk, e10⟩ := lw10_ok ns m hm (XI l) (some (.dat (tP r))) (XN x) (XN y) (some (.dat (.str w))) (some (.dat d7)) (some (.dat (tI u))) x9
  obtain ⟨j, e11⟩ := lw11_ok ns l hl (XN m) (some (.dat (tP r))) (XN x) (XN y) (some (.dat (.str w))) (some (.dat d7)) (some (.dat (tI u))) x9 (XN k)
  have e12 := lw12_ok ns l hl (XN m) (some (.dat (tP r))) (XN x) (XN y) (some (.dat (.str w))) (some (.dat d7)) (some (.dat (tI u))) x9 k j hk
  have e13 := lw13_ok ns l hl (XN m) (some (.dat (tP r))) (XN x) (XN y) (some (.dat (.str w))) (some (.dat d7)) (some (.dat (tI u))) x9 (XI (pl3.take j)) k j hk
  obtain ⟨x16, x17, e14, e15⟩ := lw1415_ok ns m hm r hr ha (XI l) (some (.dat (.str w))) (some (.dat d7)) (some (.dat (tI u))) x9 (XN k) (XI (pl3.take j)) (some (.dat (tT (tlOf l k (pl3.take j))))) hx hy hxy
  obtain ⟨h, v, hm', e16, e17⟩ := lw1617_ok ns l hl (XN m) (some (.dat (tP r))) (XN x) (XN y) (some (.dat (.str w))) (some (.dat d7)) (some (.dat (tI u))) x9 (XN k) (XI (pl3.take j)) (some (.dat (tT (tlOf l k (pl3.take j))))) x16 x17
  obtain ⟨row, B, e18⟩ := lw18_ok ns l hl hs (XN m) (some (.dat (tP r))) (XN x) (XN y) (some (.dat (.str w))) (some (.dat d7)) (some (.dat (tI u))) x9 (XN k) (XI (pl3.take j)) (some (.dat (tT (tlOf l k (pl3.take j))))) x16 x17 h v hm'
  refine runS_rt rfl ((seqS_nx e0).trans ((seqS_nx e1).trans ((seqS_nx e2).trans ((seqS_nx e3).trans ((seqS_nx e4).trans ((seqS_nx e5).trans ((seqS_nx e6).trans ((seqS_nx e7).trans ((seqS_nx e8).trans ((seqS_nx e9).trans ((seqS_nx e10).trans ((seqS_nx e11).trans ((seqS_nx e12).trans ((seqS_nx e13).trans ((seqS_nx e14).trans ((seqS_nx e15).trans ((seqS_nx e16).trans ((seqS_nx e17).trans ((seqS_nx e18).trans (ret_eq ?_))))))))))))))))))))
  exact (c1_eq (consA_eq rfl (consA_eq rfl (consA_eq rfl rfl)))).trans (board_right B)
end Qd
end
section
set_option Elab.async false
set_option linter.all false
set_option autoImplicit false
set_option maxRecDepth 100000
set_option maxHeartbeats 0
/-! H0: what the head looks at, and the world's facts from it. -/
namespace Qd
open PySem
open PySem.Spec
open PyProof.Rows
open L2
open LamX (ExtN Tabs TabS CodeO TabB)

theorem tupA_ok {K : PySem.W.Frag} {a : Addr} {vs : List V} (h : tupA K a vs = true) (H : Hp) : SqT K H a vs := by
  unfold tupA at h
  cases e : K.lookup a with
  | none =>
    rw [e] at h
    cases h
  | some o =>
    obtain ⟨oc, od, dt, osl⟩ := o
    rw [e] at h
    obtain ⟨h1, h2⟩ := He.ba h
    cases dt with
    | seq its n =>
      obtain ⟨h3, h4⟩ := He.ba (show (decide (its.size ≤ 1000) && He.relAll vs its.toList) = true from h1)
      cases oc with
      | type c => exact .inr ⟨_, its, n, e, congrArg Value.type (of_decide_eq_true h2), rfl, Nat.le_trans (of_decide_eq_true h3) (by decide), He.relAll_ok h4⟩
      | _ => cases h2
    | _ => cases h1

/-! ### the world's facts -/
def lamN1 : Str := "run.<locals>.<lambda>"
def lamN2 : Str := "open_road.<locals>.<lambda>"
def lamN3 : Str := "wall.<locals>.<lambda>"
def lamN4 : Str := "seeps.<locals>.<lambda>"
def Tm (K : PySem.W.Frag) : List (Addr × Str) := [((He.cT K ("run", none)).2, lamN1), ((He.cT K ("open_road", none)).2, lamN2), ((He.cT K ("wall", none)).2, lamN3), ((He.cT K ("seeps", none)).2, lamN4)]
section
variable {P : Program} {w : World} {K : PySem.W.Frag} {mg : Str → Option Value} {base h : Heap}
abbrev hW (P : Program) (w : World) (K : PySem.W.Frag) (mg : Str → Option Value) (base : Heap) : Wd := ⟨P, w, K, mg, base, Tm K, 8⟩
theorem mem_glo {p : Str × Str × Nat} (h : p ∈ tab) : He.Fa.glo p.1 ∈ hfa := List.mem_append_left _ (List.mem_map.mpr ⟨p, h, rfl⟩)
theorem mem_gl {x : Str} (h : x ∈ hgl) : He.Fa.glo x ∈ hfa := List.mem_append_right _ (List.mem_append_left _ (List.mem_map.mpr ⟨x, h, rfl⟩))
theorem mem_free {x : Str} (h : x ∈ blts) : He.Fa.free x ∈ hfa := List.mem_append_right _ (List.mem_append_right _ (List.mem_append_left _ (List.mem_map.mpr ⟨x, h, rfl⟩)))
theorem mem_int {p : Str × Int} (h : p ∈ hint) : He.Fa.int p.1 p.2 ∈ hfa := List.mem_append_right _ (List.mem_append_right _ (List.mem_append_right _ (List.mem_map.mpr ⟨p, h, rfl⟩)))
theorem uq_of {K : PySem.W.Frag} (nd : (tabA K).Nodup) : ∀ p ∈ Tm K, ∀ q ∈ Tm K, p.1 = q.1 → p.2 = q.2 := by
  have nd : [(He.cT K ("run", none)).2, (He.cT K ("open_road", none)).2, (He.cT K ("wall", none)).2, (He.cT K ("seeps", none)).2].Nodup := nd
  simp only [List.nodup_cons, List.mem_cons, List.not_mem_nil, or_false, not_or, not_false_eq_true, List.nodup_nil, and_true] at nd
  obtain ⟨⟨a1, a2, a3⟩, ⟨a4, a5⟩, a6⟩ := nd
  intro p hp q hq e
  unfold Tm at hp hq
  simp only [List.mem_cons, List.not_mem_nil, or_false] at hp hq
  rcases hp with rfl | rfl | rfl | rfl <;> rcases hq with rfl | rfl | rfl | rfl <;> first
    | rfl
    | exact absurd e a1
    | exact absurd e a2
    | exact absurd e a3
    | exact absurd e a4
    | exact absurd e a5
    | exact absurd e a6
    | exact absurd e.symm a1
    | exact absurd e.symm a2
    | exact absurd e.symm a3
    | exact absurd e.symm a4
    | exact absurd e.symm a5
    | exact absurd e.symm a6
theorem atM_of (c : He.SaysX hfa hfn hts htf hex w h K) (KX : K.In base) (G : base.Ns mainGlobals mg) (TB : ∀ p ∈ htf, TabB base mg (He.cT K p).1 (He.cT K p).2) (nd : (tabA K).Nodup) {x q : Str} {i : Nat} (ht : (x, x, i) ∈ tab) (hf : ((x, none) : He.Defn) ∈ htf) (hm : ((He.cT K (x, none)).2, q) ∈ Tm K) :
    ∃ c P', AtM (hW P w K mg base) x x (topS i) c P' q := by
  obtain ⟨fd, F⟩ := c.t.d.defs (d := ⟨(x, none), x, x, defArgs (topS i), defBody (topS i), defScope (topS i), [], []⟩) (List.mem_map.mpr ⟨(x, x, i), ht, rfl⟩)
  refine ⟨(He.cT K (x, none)).1, (He.cT K (x, none)).2, ⟨He.ga K x, fd, F, He.glo_ok KX G (c.t.d.facts (mem_glo ht)), ?_⟩, hm, fun p hp e => uq_of nd p hp _ hm e, TB _ hf⟩
  obtain ⟨oc, od, dV, kV, doc, pm, an, cdv, ct, osl, rfl, lk, hcd, _, _⟩ := F.ex
  obtain ⟨c', e⟩ := He.codeIn_ref hcd
  have e2 := He.codeOf_eq (p := (x, none)) lk e
  show cdv = .ref (He.codeOf K (x, none))
  rw [e2, e]
theorem wok (c : He.SaysX hfa hfn hts htf hex w h K) (KX : K.In base) (G : base.Ns mainGlobals mg) (TB : ∀ p ∈ htf, TabB base mg (He.cT K p).1 (He.cT K p).2) : WOk (hW P w K mg base) := by
  obtain ⟨x1, x2⟩ := He.ba c.more
  obtain ⟨x3, x4⟩ := He.ba x2
  obtain ⟨x5, x6⟩ := He.ba x4
  obtain ⟨x7, x8⟩ := He.ba x6
  have nd : (tabA K).Nodup := of_decide_eq_true x8
  have glo : ∀ {x : Str}, He.Fa.glo x ∈ hfa → mg x = some (.ref (He.ga K x)) := fun m => He.glo_ok KX G (c.t.d.facts m)
  refine ⟨fun x hx => He.free_ok KX G (c.t.d.facts (mem_free hx)), fun p hp => ?_, He.int_ok KX G (c.t.d.facts (mem_int (p := ("MOST_THINGS_forests", 40)) (by decide))), He.int_ok KX G (c.t.d.facts (mem_int (p := ("MOST_THINGS_stores", 40)) (by decide))),
    He.int_ok KX G (c.t.d.facts (mem_int (p := ("MOST_REST", 1000)) (by decide))), He.int_ok KX G (c.t.d.facts (mem_int (p := ("MOST_SPOTS", 40)) (by decide))), ⟨_, glo (mem_gl (x := "SHORTS") (by decide)), fun H => tupA_ok x3 H⟩, ⟨_, glo (mem_gl (x := "JOINS") (by decide)), fun H => tupA_ok x5 H⟩,
    ⟨He.ga K "KINDS", glo (mem_gl (x := "KINDS") (by decide)), c.t.tab 0 rfl, fun p hp => ?_⟩, rfl, atM_of c KX G TB nd (mf 23 rfl) (by unfold htf; simp) (by unfold Tm; simp [lamN1]), atM_of c KX G TB nd (mf 79 rfl) (by unfold htf; simp) (by unfold Tm; simp [lamN2]), atM_of c KX G TB nd (mf 80 rfl) (by unfold htf; simp) (by unfold Tm; simp [lamN3]), atM_of c KX G TB nd (mf 81 rfl) (by unfold htf; simp) (by unfold Tm; simp [lamN4])⟩
  · obtain ⟨fd, F⟩ := c.t.d.defs (d := ⟨(p.1, none), p.2.1, p.2.1, defArgs (topS p.2.2), defBody (topS p.2.2), defScope (topS p.2.2), [], []⟩) (List.mem_map.mpr ⟨p, hp, rfl⟩)
    exact ⟨He.ga K p.1, fd, F, glo (mem_glo hp)⟩
  · have z := List.all_eq_true.mp x7 p hp
    unfold kindB at z
    split at z
    · rename_i tp e
      refine ⟨tp, He.ga K p.2.1, e, fun H => tupA_ok z H, ?_⟩
      have mt : ∀ p ∈ kt, ∃ q ∈ tab, q.1 = p.2.1 := by decide
      obtain ⟨q, hq, e2⟩ := mt p hp
      rw [← e2]
      exact glo (mem_glo hq)
    · cases z
end
end Qd
end
section
set_option Elab.async false
set_option linter.all false
set_option autoImplicit false
set_option maxRecDepth 100000
set_option maxHeartbeats 0
/-! H3: the end, from the pure law. -/
namespace Qd
open PySem
open PySem.Spec
open PyProof.Rows
open L2
open LamX (ExtN Tabs TabS CodeO TabB)
theorem no_lst {K : PySem.W.Frag} {H : Hp} {a : Addr} {xs : List V} (h : noLst K = true) (s : SqL K H a xs) : Rd H a (.lst xs) := by
  rcases s with s | ⟨o, its, n, hk, hc, _⟩
  · exact s
  · have z := List.all_eq_true.mp h (a, o) (He.lookup_mem hk)
    have z : (match o.cls with
      | .type c => !decide (c = "list")
      | _ => true) = true := z
    rw [hc] at z
    cases z
theorem sp_of {P : Program} {w : World} {K : PySem.W.Frag} {mg : Str → Option Value} {base base' : Heap} {n : Nat} {F : List D → Option D} {vs : List V} {H : Hp} {Q : VK} {E : XK} (h : SpF (hW P w K mg base) n F vs H Q E) : SpF (hW P w K mg base') n F vs H Q E := by
  obtain ⟨h1, HF, ds, d, g, h2, h3, h4⟩ := h
  exact ⟨h1, HF, ds, d, ⟨g.sub, g.tab, g.nt⟩, h2, h3, h4⟩
theorem fn_weak {P : Program} {w : World} {K : PySem.W.Frag} {mg : Str → Option Value} {base : Heap} {CX : CXT} {k : Nat} {f : Addr} {fd : FuncData} {ps : List Str} {sp sp' : Sp} (F : FnOk P w K mg base CX k f fd ps sp) (h : ∀ vs H Q E, sp' vs H Q E → sp vs H Q E) : FnOk P w K mg base CX k f fd ps sp' :=
  ⟨fun vs H Q E z => F.len vs H Q E (h vs H Q E z), fun A outer s H args us vs Q E hr e0 hb hv z => F.run A outer s H args us vs Q E hr e0 hb hv (h vs H Q E z)⟩
theorem fnok_of {W : Wd} {nm : Str} {st : Stmt} {N ps gs : List Str} {n m k : Nat} {L : List Nat} {g : Gs} {f : Addr} {fd : FuncData} (bn : ∀ x ∈ blts, W.mg x = none) (F : FunD W.K nm nm (defArgs st) (defBody st) (defScope st) [] [] f fd) (ck : ckF (defScope st) N ps L gs = true) (hn : ps.length = n) (hN : N.length = m) (hle : n ≤ m)
    (body : BSs ⟨W, k, defScope st, N, L, L, gs, none⟩ (defBody st) g) : FnOk W.prog W.w W.K W.mg W.base CX0 (k + 1) f fd ps (SpF W n (runS n m g)) := by
  obtain ⟨S, c1, c2, c3⟩ := ckF_ok ck
  obtain ⟨t, t1, t2⟩ := body
  refine F.ok S (fun vs H Q E h => by rw [hn]; exact h.1) fun cdv A outer s H vs Q E hr h => ?_
  refine ⟨t, (t2 (bodyCx W N nm st f cdv A outer s H E) ?_).nox, ds_run t1 hN hle h⟩
  exact ⟨⟨W.T, W.kf, rfl⟩, rfl, S.nd, hr, rfl, PassesOwn.never, rfl, c1, fun i hi x e => ⟨c2 i hi x e, .inl rfl⟩, c3, bn, fun _ _ _ z => by cases z⟩
theorem law_at (pure : ∀ ns : List Int, ns.length ≤ 63 → F_law [.list (ns.map .int)] = some (.bool true)) {w : World} {mg : Str → Option Value} {fa : Addr} {h : Heap} {K : PySem.W.Frag} (KX : K.In h) (G : h.Ns mainGlobals mg) (hmg : mg ("law" : Str) = some (.ref fa)) (c : He.SaysX hfa hfn hts htf hex w h K) :
    LamX.LawAtS PySem.Challenge.rw_lotheads_k77_whole_never_both w K CX0 20 63 "_law_script" mg fa h := by
  have nl : noLst K = true := (He.ba c.more).1
  obtain ⟨fd, FD⟩ := c.t.d.defs (d := ⟨("law", none), "law", "law", defArgs (topS 142), defBody (topS 142), defScope (topS 142), [], []⟩) (List.mem_map.mpr ⟨("law", "law", 142), mf 110 rfl, rfl⟩)
  have e : He.ga K "law" = fa := by
    have z := He.glo_ok KX G (c.t.d.facts (mem_glo (p := ("law", "law", 142)) (mf 110 rfl)))
    rw [hmg] at z
    cases z
    rfl
  refine ⟨fd, htf.map (He.cT K), SpF (hW PySem.Challenge.rw_lotheads_k77_whole_never_both.prog w K mg h) 1 F_law, fun p hp => ?_, fun p hp => ?_, fun p hp => ?_, fun s u => ?_, fun H a ns hl _ hT hS => ?_, fun base KB GB TB => ?_⟩
  · obtain ⟨q, hq, rfl⟩ := List.mem_map.mp hp
    exact c.empty q hq
  · obtain ⟨q, hq, rfl⟩ := List.mem_map.mp hp
    exact c.out q hq
  · obtain ⟨q, hq, rfl⟩ := List.mem_map.mp hp
    exact PySem.W.codeHd_of_K KX (c.hd q hq)
  · have b := FunD.bindsA (ps := ["_law_script"]) FD fun _ _ _ _ _ _ us hl => match us, hl with | [_], _ => rfl
    exact b s [u] rfl
  · -- the script's list is known; nothing else
    have rd := no_lst nl hS
    have up : ∀ o : HO, H a = some o → (∀ ps, o ≠ .tbl ps) → Same (L2.upd (fun _ => none) a o) H ∧ ∀ b ps, (L2.upd (fun _ => none) a o) b ≠ some (.tbl ps) := fun o ho n => by
      refine ⟨fun b u e => ?_, fun b ps e => ?_⟩
      · by_cases hb : b = a
        · rw [hb, upd_same] at e
          rw [hb, ho, e]
        · rw [upd_ne hb] at e
          cases e
      · by_cases hb : b = a
        · rw [hb, upd_same] at e
          exact n ps (Option.some.inj e)
        · rw [upd_ne hb] at e
          cases e
    have ex : ∃ HF : Hp, Same HF H ∧ Rd HF a (.lst (ns.map V.int)) ∧ ∀ b ps, HF b ≠ some (.tbl ps) := by
      rcases rd with z | ⟨o, z⟩
      · obtain ⟨u1, u2⟩ := up _ z fun ps e => by cases e
        exact ⟨_, u1, .inl upd_same, u2⟩
      · obtain ⟨u1, u2⟩ := up _ z fun ps e => by cases e
        exact ⟨_, u1, .inr ⟨o, upd_same⟩, u2⟩
    obtain ⟨HF, s1, s2, s3⟩ := ex
    have tb : Tabs (Tm K) H := fun p hp => by
      have hp2 : ∃ q ∈ htf, p.1 = (He.cT K q).2 := by
        unfold Tm at hp
        simp only [List.mem_cons, List.not_mem_nil, or_false] at hp
        unfold htf
        rcases hp with rfl | rfl | rfl | rfl
        · exact ⟨("run", none), by simp, rfl⟩
        · exact ⟨("open_road", none), by simp, rfl⟩
        · exact ⟨("wall", none), by simp, rfl⟩
        · exact ⟨("seeps", none), by simp, rfl⟩
      obtain ⟨q, hq, e⟩ := hp2
      exact TabS.nil (by rw [e]; exact hT _ (List.mem_map.mpr ⟨q, hq, rfl⟩))
    have rints : ∀ ns : List Int, RpL K HF (ns.map V.int) (ns.map PyData.int) := fun ns => by
      induction ns with
      | nil => exact .nil
      | cons n ns ih => exact .cons (.int n) ih
    exact ⟨rfl, HF, [.list (ns.map .int)], .bool true, ⟨s1, tb, s3⟩, .cons (.lst s2 (rints ns)) .nil, pure ns hl, fun v H' HF' f r => r.bl_inv⟩
  · have W := wok (P := PySem.Challenge.rw_lotheads_k77_whole_never_both.prog) c KB GB fun p hp => TB _ (List.mem_map.mpr ⟨p, hp, rfl⟩)
    have e' : He.fAd K ("law", none) = fa := e
    rw [e'] at FD
    have z := fnok_of (ps := ["_law_script"]) W.bn FD (by decide +kernel) rfl rfl (by decide) (body_law W)
    exact fn_weak (z.mono (by decide)) fun vs H Q E h => sp_of h
open PySem.W
open PySem.Calls
theorem holds_of (pure : ∀ ns : List Int, ns.length ≤ 63 → F_law [.list (ns.map .int)] = some (.bool true)) : PySem.Challenge.rw_lotheads_k77_whole_never_both.Holds := by
  w_on; o_law
  refine HandSHeadRun.head_any (r := hR) (q := PySem.W.view hR.prog [142]) (H := hhk) (ob := hob) (M := 6000) (loose := nm) (d := HandSHeadRun.topDef hR.prog 142) (kwd := []) hob_eq
    (by kernel_rfl) (fun s => by kernel_rfl) hrun (by kernel_rfl) (by kernel_rfl) (by kernel_rfl) (by rfl) (by first | assumption | decide +kernel) (by decide +kernel) ⟨rfl, rfl, rfl, rfl, rfl, by decide +kernel⟩ ?hw ?hc
  case hw => w_witness2
  case hc =>
    refine LamX.walk_ofTsE (l := PySem.Challenge.rw_lotheads_k77_whole_never_both) (n := 63) (k := 20) (x := "_law_script") (CX := fun _ => CX0) rfl (by decide) (by kernel_rfl) ⟨rfl, by decide, by decide⟩ ?F (fun _ _ _ _ _ z => z)
    intro w mg fa h Y G hmg0
    obtain ⟨K, KX, c⟩ := Y
    have hmg : mg ("law" : PySem.Str) = some (.ref fa) := by
      have e : (HandSHeadRun.topDef hR.prog 142).name = ("law" : PySem.Str) := by kernel_rfl
      rw [← e]
      exact hmg0
    exact ⟨K, KX, law_at pure KX G hmg c⟩
end Qd
end
theorem PySem.Challenge.cw_lotheads_k77_whole_never_both_holds : PySem.Challenge.rw_lotheads_k77_whole_never_both.Holds := by
  exact Qd.holds_of Qd.law_true
